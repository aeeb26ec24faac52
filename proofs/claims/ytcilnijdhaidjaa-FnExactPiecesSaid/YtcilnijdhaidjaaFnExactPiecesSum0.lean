/- Tables of types; summaries of the functions. Conditions: none. -/
import Derived.Test.YtcilnijdhaidjaaLib3
import Derived.Test.YtcilnijdhaidjaaFnExactPiecesNat
import Derived.Test.YtcilnijdhaidjaaProg
import Derived.KernelRfl
namespace Go.Proofs.Ytcilnijdhaidjaa.Ev
open Go Go.Ev Go.Proofs
set_option linter.unusedVariables false
set_option maxRecDepth 100000

abbrev I : L := .int .i64
/-- Package-level variables that are looked at. -/
abbrev TT : List (String × Array Value) := []
def k0 : Ls := (.cons .str (.one (.int .u64)))
def k1 : Ls := (.cons I (.one I))
def k2 : Ls := (.cons I (.cons I (.one I)))
def k3 : Ls := (.cons .bool (.cons I (.one I)))
def k4 : Ls := (.cons I (.cons I (.cons .bool (.one (.int .u8)))))
def k5 : Ls := (.cons I (.cons I (.cons I (.one I))))
def k6 : Ls := (.cons I (.cons I (.cons I (.cons .bool (.one I)))))
def k7 : Ls := (.cons I (.cons I (.one (.sl 3 (.one I)))))
def k8 : Ls := (.cons I (.cons I (.one (.sl 175 k2))))
def k9 : Ls := (.cons I (.cons I (.one (.sl 195 k2))))
def k10 : Ls := (.cons I (.cons I (.cons (.sl 149 k1) (.cons (.sl 151 k2) (.one I)))))
def k11 : Ls := (.cons I (.cons I (.cons (.sl 147 k1) (.cons (.sl 102 k2) (.one I)))))
def k12 : Ls := (.cons (.sl 3 (.one I)) (.cons I (.cons .bool (.cons I (.cons I (.cons I (.cons (.sl 3 (.one I)) (.one (.sl 127 k3)))))))))
def k13 : Ls := (.cons (.sl 3 (.one I)) (.cons I (.cons .bool (.cons I (.cons I (.cons I (.cons (.sl 3 (.one I)) (.one (.sl 156 k3)))))))))
def k14 : Ls := (.cons I (.one (.sl 33 k10)))
def k15 : Ls := (.cons I (.one (.sl 39 k11)))
def k16 : Ls := (.cons I (.cons I (.cons (.sl 3 (.one I)) (.cons (.sl 185 k9) (.cons I (.cons (.sl 33 k10) (.cons (.sl 165 k6) (.cons (.sl 167 k5) (.cons (.sl 3 (.one I)) (.cons (.sl 3 (.one I)) (.one I)))))))))))
def k17 : Ls := (.cons I (.cons I (.cons (.sl 3 (.one I)) (.cons (.sl 179 k8) (.cons I (.cons (.sl 39 k11) (.cons (.sl 135 k6) (.cons (.sl 110 k5) (.cons (.sl 3 (.one I)) (.cons (.sl 3 (.one I)) (.one I)))))))))))
def tbl : List (Nat × Ty) := [
  (3, ⟨false, (.one I), []⟩),
  (4, ⟨false, (.one .bool), []⟩),
  (22, ⟨false, (.one (.sl 3 (.one I))), []⟩),
  (30, ⟨false, (.one (.sl 149 k1)), []⟩),
  (31, ⟨false, (.one (.sl 151 k2)), []⟩),
  (33, ⟨true, k10, [(0, 3), (1, 3), (2, 30), (3, 31), (4, 3)]⟩),
  (35, ⟨false, (.one (.sl 102 k2)), []⟩),
  (37, ⟨false, (.one (.sl 147 k1)), []⟩),
  (39, ⟨true, k11, [(0, 3), (1, 3), (2, 37), (3, 35), (4, 3)]⟩),
  (46, ⟨false, (.one (.sl 110 k5)), []⟩),
  (59, ⟨false, (.one (.sl 33 k10)), []⟩),
  (61, ⟨true, k14, [(0, 3), (1, 59)]⟩),
  (65, ⟨false, (.one (.sl 39 k11)), []⟩),
  (67, ⟨true, k15, [(0, 3), (1, 65)]⟩),
  (75, ⟨true, k7, [(0, 3), (1, 3), (2, 22)]⟩),
  (76, ⟨false, (.one (.sl 185 k9)), []⟩),
  (78, ⟨true, (.one (.sl 185 k9)), [(0, 76)]⟩),
  (79, ⟨false, (.one (.sl 165 k6)), []⟩),
  (80, ⟨false, (.one (.sl 167 k5)), []⟩),
  (82, ⟨true, k16, [(0, 75), (3, 78), (4, 61), (6, 79), (7, 80), (8, 22), (9, 22), (10, 3)]⟩),
  (85, ⟨true, k7, [(0, 3), (1, 3), (2, 22)]⟩),
  (86, ⟨false, (.one (.sl 179 k8)), []⟩),
  (88, ⟨true, (.one (.sl 179 k8)), [(0, 86)]⟩),
  (89, ⟨false, (.one (.sl 135 k6)), []⟩),
  (91, ⟨true, k17, [(0, 85), (3, 88), (4, 67), (6, 89), (7, 46), (8, 22), (9, 22), (10, 3)]⟩),
  (102, ⟨true, k2, [(0, 3), (1, 3), (2, 3)]⟩),
  (110, ⟨true, k5, [(0, 3), (1, 3), (2, 3), (3, 3)]⟩),
  (135, ⟨true, k6, [(0, 3), (1, 3), (2, 3), (3, 4), (4, 3)]⟩),
  (147, ⟨true, k1, [(0, 3), (1, 3)]⟩),
  (149, ⟨true, k1, [(0, 3), (1, 3)]⟩),
  (151, ⟨true, k2, [(0, 3), (1, 3), (2, 3)]⟩),
  (165, ⟨true, k6, [(0, 3), (1, 3), (2, 3), (3, 4), (4, 3)]⟩),
  (167, ⟨true, k5, [(0, 3), (1, 3), (2, 3), (3, 3)]⟩),
  (175, ⟨true, k2, [(0, 3), (1, 3), (2, 3)]⟩),
  (177, ⟨false, (.one (.sl 175 k2)), []⟩),
  (179, ⟨true, k8, [(0, 3), (1, 3), (2, 177)]⟩),
  (183, ⟨false, (.one (.sl 195 k2)), []⟩),
  (185, ⟨true, k9, [(0, 3), (1, 3), (2, 183)]⟩),
  (195, ⟨true, k2, [(0, 3), (1, 3), (2, 3)]⟩)]
theorem tblOk : tbl.all (fun p => tyB Try.prog p.1 p.2) = true := by kernel_rfl
theorem follows : Try.prog.follows .mixedOrders = true := by kernel_rfl
-- laws_szIntS
def sm72 : Sm := ⟨[.val false [(.sl 3 (.one I))], .val false [I]], [(false, [(I, 0)])]⟩
def an72 : An := ⟨fun _ => none,
  fun _ => none,
  fun _ => none⟩
def s72 (n : Nat) : SmF := ⟨sm72, fun x => N.laws_szIntS x.1 x.2⟩
def env72 (n : Nat) : List (FuncId × SmF) := []
theorem ev72 (n : Nat) (x : sm72.ins.D) : evFn (find tbl) (find (env72 n)) an72 n Try.f72 sm72 x = N.laws_szIntS x.1 x.2 := by kernel_rfl
theorem ok72 (n : Nat) : FnOk Try.prog TT 72 (s72 n) := fn_native (an := an72) (n := n) Try.func72 rfl (by kernel_rfl) tblOk env_nil follows (ev72 n)
theorem body72 : HasBody Try.prog 72 := ⟨_, _, Try.func72, rfl, by kernel_rfl⟩

-- laws_szFloor
def sm96 : Sm := ⟨[.val true [I, I, (.sl 3 (.one I))], .val false [I]], [(false, [(I, 0)])]⟩
def an96 : An := ⟨fun _ => none,
  fun _ => none,
  fun _ => none⟩
def s96 (n : Nat) : SmF := ⟨sm96, fun x => N.laws_szFloor x.1 x.2.1 x.2.2.1 x.2.2.2⟩
def env96 (n : Nat) : List (FuncId × SmF) := [(72, s72 n)]
theorem ev96 (n : Nat) (x : sm96.ins.D) : evFn (find tbl) (find (env96 n)) an96 n Try.f96 sm96 x = N.laws_szFloor x.1 x.2.1 x.2.2.1 x.2.2.2 := by kernel_rfl
theorem ok96 (n : Nat) : FnOk Try.prog TT 96 (s96 n) := fn_native (an := an96) (n := n) Try.func96 rfl (by kernel_rfl) tblOk (env_cons (ok72 n) body72 env_nil) follows (ev96 n)
theorem body96 : HasBody Try.prog 96 := ⟨_, _, Try.func96, rfl, by kernel_rfl⟩

-- laws_szStackS
def sm147 : Sm := ⟨[.val false [(.sl 195 k2)], .val false [I]], [(false, [(I, 0)])]⟩
def an147 : An := ⟨fun _ => none,
  fun _ => none,
  fun _ => none⟩
def s147 (n : Nat) : SmF := ⟨sm147, fun x => N.laws_szStackS x.1 x.2⟩
def env147 (n : Nat) : List (FuncId × SmF) := []
theorem ev147 (n : Nat) (x : sm147.ins.D) : evFn (find tbl) (find (env147 n)) an147 n Try.f147 sm147 x = N.laws_szStackS x.1 x.2 := by kernel_rfl
theorem ok147 (n : Nat) : FnOk Try.prog TT 147 (s147 n) := fn_native (an := an147) (n := n) Try.func147 rfl (by kernel_rfl) tblOk env_nil follows (ev147 n)
theorem body147 : HasBody Try.prog 147 := ⟨_, _, Try.func147, rfl, by kernel_rfl⟩

-- laws_szPod
def sm141 : Sm := ⟨[.val true [I, I, (.sl 195 k2)], .val false [I]], [(false, [(I, 0)])]⟩
def an141 : An := ⟨fun _ => none,
  fun _ => none,
  fun _ => none⟩
def s141 (n : Nat) : SmF := ⟨sm141, fun x => N.laws_szPod x.1 x.2.1 x.2.2.1 x.2.2.2⟩
def env141 (n : Nat) : List (FuncId × SmF) := [(147, s147 n)]
theorem ev141 (n : Nat) (x : sm141.ins.D) : evFn (find tbl) (find (env141 n)) an141 n Try.f141 sm141 x = N.laws_szPod x.1 x.2.1 x.2.2.1 x.2.2.2 := by kernel_rfl
theorem ok141 (n : Nat) : FnOk Try.prog TT 141 (s141 n) := fn_native (an := an141) (n := n) Try.func141 rfl (by kernel_rfl) tblOk (env_cons (ok147 n) body147 env_nil) follows (ev141 n)
theorem body141 : HasBody Try.prog 141 := ⟨_, _, Try.func141, rfl, by kernel_rfl⟩

-- laws_szPodS
def sm126 : Sm := ⟨[.val false [(.sl 185 k9)], .val false [I]], [(false, [(I, 0)])]⟩
def an126 : An := ⟨fun _ => none,
  fun b => match b with
    | 0 => some ([.slot 1 I, .slot 5 I], true)
    | _ => none,
  fun _ => none⟩
def s126 (n : Nat) : SmF := ⟨sm126, fun x => N.laws_szPodS n x.1 x.2⟩
def env126 (n : Nat) : List (FuncId × SmF) := [(141, s141 n)]
theorem ev126 (n : Nat) (x : sm126.ins.D) : evFn (find tbl) (find (env126 n)) an126 n Try.f126 sm126 x = N.laws_szPodS n x.1 x.2 := by kernel_rfl
theorem ok126 (n : Nat) : FnOk Try.prog TT 126 (s126 n) := fn_native (an := an126) (n := n) Try.func126 rfl (by kernel_rfl) tblOk (env_cons (ok141 n) body141 env_nil) follows (ev126 n)
theorem body126 : HasBody Try.prog 126 := ⟨_, _, Try.func126, rfl, by kernel_rfl⟩

-- laws_szStock
def sm97 : Sm := ⟨[.val true [(.sl 185 k9)], .val false [I]], [(false, [(I, 0)])]⟩
def an97 : An := ⟨fun _ => none,
  fun _ => none,
  fun _ => none⟩
def s97 (n : Nat) : SmF := ⟨sm97, fun x => N.laws_szStock n x.1 x.2⟩
def env97 (n : Nat) : List (FuncId × SmF) := [(126, s126 n)]
theorem ev97 (n : Nat) (x : sm97.ins.D) : evFn (find tbl) (find (env97 n)) an97 n Try.f97 sm97 x = N.laws_szStock n x.1 x.2 := by kernel_rfl
theorem ok97 (n : Nat) : FnOk Try.prog TT 97 (s97 n) := fn_native (an := an97) (n := n) Try.func97 rfl (by kernel_rfl) tblOk (env_cons (ok126 n) body126 env_nil) follows (ev97 n)
theorem body97 : HasBody Try.prog 97 := ⟨_, _, Try.func97, rfl, by kernel_rfl⟩

-- laws_szItemS
def sm62 : Sm := ⟨[.val false [(.sl 149 k1)], .val false [I]], [(false, [(I, 0)])]⟩
def an62 : An := ⟨fun _ => none,
  fun _ => none,
  fun _ => none⟩
def s62 (n : Nat) : SmF := ⟨sm62, fun x => N.laws_szItemS x.1 x.2⟩
def env62 (n : Nat) : List (FuncId × SmF) := []
theorem ev62 (n : Nat) (x : sm62.ins.D) : evFn (find tbl) (find (env62 n)) an62 n Try.f62 sm62 x = N.laws_szItemS x.1 x.2 := by kernel_rfl
theorem ok62 (n : Nat) : FnOk Try.prog TT 62 (s62 n) := fn_native (an := an62) (n := n) Try.func62 rfl (by kernel_rfl) tblOk env_nil follows (ev62 n)
theorem body62 : HasBody Try.prog 62 := ⟨_, _, Try.func62, rfl, by kernel_rfl⟩

-- laws_szPickS
def sm63 : Sm := ⟨[.val false [(.sl 151 k2)], .val false [I]], [(false, [(I, 0)])]⟩
def an63 : An := ⟨fun _ => none,
  fun _ => none,
  fun _ => none⟩
def s63 (n : Nat) : SmF := ⟨sm63, fun x => N.laws_szPickS x.1 x.2⟩
def env63 (n : Nat) : List (FuncId × SmF) := []
theorem ev63 (n : Nat) (x : sm63.ins.D) : evFn (find tbl) (find (env63 n)) an63 n Try.f63 sm63 x = N.laws_szPickS x.1 x.2 := by kernel_rfl
theorem ok63 (n : Nat) : FnOk Try.prog TT 63 (s63 n) := fn_native (an := an63) (n := n) Try.func63 rfl (by kernel_rfl) tblOk env_nil follows (ev63 n)
theorem body63 : HasBody Try.prog 63 := ⟨_, _, Try.func63, rfl, by kernel_rfl⟩

-- laws_szOrder
def sm18 : Sm := ⟨[.val true [I, I, (.sl 149 k1), (.sl 151 k2), I], .val false [I]], [(false, [(I, 0)])]⟩
def an18 : An := ⟨fun _ => none,
  fun _ => none,
  fun _ => none⟩
def s18 (n : Nat) : SmF := ⟨sm18, fun x => N.laws_szOrder x.1 x.2.1 x.2.2.1 x.2.2.2.1 x.2.2.2.2.1 x.2.2.2.2.2⟩
def env18 (n : Nat) : List (FuncId × SmF) := [(62, s62 n), (63, s63 n)]
theorem ev18 (n : Nat) (x : sm18.ins.D) : evFn (find tbl) (find (env18 n)) an18 n Try.f18 sm18 x = N.laws_szOrder x.1 x.2.1 x.2.2.1 x.2.2.2.1 x.2.2.2.2.1 x.2.2.2.2.2 := by kernel_rfl
theorem ok18 (n : Nat) : FnOk Try.prog TT 18 (s18 n) := fn_native (an := an18) (n := n) Try.func18 rfl (by kernel_rfl) tblOk (env_cons (ok62 n) body62 (env_cons (ok63 n) body63 env_nil)) follows (ev18 n)
theorem body18 : HasBody Try.prog 18 := ⟨_, _, Try.func18, rfl, by kernel_rfl⟩

-- laws_szOrderS
def sm82 : Sm := ⟨[.val false [(.sl 33 k10)], .val false [I]], [(false, [(I, 0)])]⟩
def an82 : An := ⟨fun _ => none,
  fun b => match b with
    | 0 => some ([.slot 1 I, .slot 5 I], true)
    | _ => none,
  fun _ => none⟩
def s82 (n : Nat) : SmF := ⟨sm82, fun x => N.laws_szOrderS n x.1 x.2⟩
def env82 (n : Nat) : List (FuncId × SmF) := [(18, s18 n)]
theorem ev82 (n : Nat) (x : sm82.ins.D) : evFn (find tbl) (find (env82 n)) an82 n Try.f82 sm82 x = N.laws_szOrderS n x.1 x.2 := by kernel_rfl
theorem ok82 (n : Nat) : FnOk Try.prog TT 82 (s82 n) := fn_native (an := an82) (n := n) Try.func82 rfl (by kernel_rfl) tblOk (env_cons (ok18 n) body18 env_nil) follows (ev82 n)
theorem body82 : HasBody Try.prog 82 := ⟨_, _, Try.func82, rfl, by kernel_rfl⟩

-- laws_szBook
def sm36 : Sm := ⟨[.val true [I, (.sl 33 k10)], .val false [I]], [(false, [(I, 0)])]⟩
def an36 : An := ⟨fun _ => none,
  fun _ => none,
  fun _ => none⟩
def s36 (n : Nat) : SmF := ⟨sm36, fun x => N.laws_szBook n x.1 x.2.1 x.2.2⟩
def env36 (n : Nat) : List (FuncId × SmF) := [(82, s82 n)]
theorem ev36 (n : Nat) (x : sm36.ins.D) : evFn (find tbl) (find (env36 n)) an36 n Try.f36 sm36 x = N.laws_szBook n x.1 x.2.1 x.2.2 := by kernel_rfl
theorem ok36 (n : Nat) : FnOk Try.prog TT 36 (s36 n) := fn_native (an := an36) (n := n) Try.func36 rfl (by kernel_rfl) tblOk (env_cons (ok82 n) body82 env_nil) follows (ev36 n)
theorem body36 : HasBody Try.prog 36 := ⟨_, _, Try.func36, rfl, by kernel_rfl⟩

-- laws_szRobotS
def sm98 : Sm := ⟨[.val false [(.sl 165 k6)], .val false [I]], [(false, [(I, 0)])]⟩
def an98 : An := ⟨fun _ => none,
  fun _ => none,
  fun _ => none⟩
def s98 (n : Nat) : SmF := ⟨sm98, fun x => N.laws_szRobotS x.1 x.2⟩
def env98 (n : Nat) : List (FuncId × SmF) := []
theorem ev98 (n : Nat) (x : sm98.ins.D) : evFn (find tbl) (find (env98 n)) an98 n Try.f98 sm98 x = N.laws_szRobotS x.1 x.2 := by kernel_rfl
theorem ok98 (n : Nat) : FnOk Try.prog TT 98 (s98 n) := fn_native (an := an98) (n := n) Try.func98 rfl (by kernel_rfl) tblOk env_nil follows (ev98 n)
theorem body98 : HasBody Try.prog 98 := ⟨_, _, Try.func98, rfl, by kernel_rfl⟩

-- laws_szTaskS
def sm99 : Sm := ⟨[.val false [(.sl 167 k5)], .val false [I]], [(false, [(I, 0)])]⟩
def an99 : An := ⟨fun _ => none,
  fun _ => none,
  fun _ => none⟩
def s99 (n : Nat) : SmF := ⟨sm99, fun x => N.laws_szTaskS x.1 x.2⟩
def env99 (n : Nat) : List (FuncId × SmF) := []
theorem ev99 (n : Nat) (x : sm99.ins.D) : evFn (find tbl) (find (env99 n)) an99 n Try.f99 sm99 x = N.laws_szTaskS x.1 x.2 := by kernel_rfl
theorem ok99 (n : Nat) : FnOk Try.prog TT 99 (s99 n) := fn_native (an := an99) (n := n) Try.func99 rfl (by kernel_rfl) tblOk env_nil follows (ev99 n)
theorem body99 : HasBody Try.prog 99 := ⟨_, _, Try.func99, rfl, by kernel_rfl⟩

-- laws_szDepot
def sm45 : Sm := ⟨[.val true [I, I, (.sl 3 (.one I)), (.sl 185 k9), I, (.sl 33 k10), (.sl 165 k6), (.sl 167 k5), (.sl 3 (.one I)), (.sl 3 (.one I)), I], .val false [I]], [(false, [(I, 0)])]⟩
def an45 : An := ⟨fun _ => none,
  fun _ => none,
  fun _ => none⟩
def s45 (n : Nat) : SmF := ⟨sm45, fun x => N.laws_szDepot n x.1 x.2.1 x.2.2.1 x.2.2.2.1 x.2.2.2.2.1 x.2.2.2.2.2.1 x.2.2.2.2.2.2.1 x.2.2.2.2.2.2.2.1 x.2.2.2.2.2.2.2.2.1 x.2.2.2.2.2.2.2.2.2.1 x.2.2.2.2.2.2.2.2.2.2.1 x.2.2.2.2.2.2.2.2.2.2.2⟩
def env45 (n : Nat) : List (FuncId × SmF) := [(36, s36 n), (72, s72 n), (96, s96 n), (97, s97 n), (98, s98 n), (99, s99 n)]
theorem ev45 (n : Nat) (x : sm45.ins.D) : evFn (find tbl) (find (env45 n)) an45 n Try.f45 sm45 x = N.laws_szDepot n x.1 x.2.1 x.2.2.1 x.2.2.2.1 x.2.2.2.2.1 x.2.2.2.2.2.1 x.2.2.2.2.2.2.1 x.2.2.2.2.2.2.2.1 x.2.2.2.2.2.2.2.2.1 x.2.2.2.2.2.2.2.2.2.1 x.2.2.2.2.2.2.2.2.2.2.1 x.2.2.2.2.2.2.2.2.2.2.2 := by kernel_rfl
theorem ok45 (n : Nat) : FnOk Try.prog TT 45 (s45 n) := fn_native (an := an45) (n := n) Try.func45 rfl (by kernel_rfl) tblOk (env_cons (ok36 n) body36 (env_cons (ok72 n) body72 (env_cons (ok96 n) body96 (env_cons (ok97 n) body97 (env_cons (ok98 n) body98 (env_cons (ok99 n) body99 env_nil)))))) follows (ev45 n)
theorem body45 : HasBody Try.prog 45 := ⟨_, _, Try.func45, rfl, by kernel_rfl⟩

-- laws_toIntS
def sm77 : Sm := ⟨[.val false [(.sl 3 (.one I))]], [(false, [((.sl 3 (.one I)), 2)])]⟩
def an77 : An := ⟨fun _ => none,
  fun b => match b with
    | 0 => some ([.slot 4 I, .own 3 3 (.one I) 2 false], false)
    | _ => none,
  fun _ => none⟩
def s77 (n : Nat) : SmF := ⟨sm77, fun x => N.laws_toIntS n x⟩
def env77 (n : Nat) : List (FuncId × SmF) := []
theorem ev77 (n : Nat) (x : sm77.ins.D) : evFn (find tbl) (find (env77 n)) an77 n Try.f77 sm77 x = N.laws_toIntS n x := by kernel_rfl
theorem ok77 (n : Nat) : FnOk Try.prog TT 77 (s77 n) := fn_native (an := an77) (n := n) Try.func77 rfl (by kernel_rfl) tblOk env_nil follows (ev77 n)
theorem body77 : HasBody Try.prog 77 := ⟨_, _, Try.func77, rfl, by kernel_rfl⟩

-- laws_toFloor
def sm100 : Sm := ⟨[.val true [I, I, (.sl 3 (.one I))]], [(true, [(I, 0), (I, 0), ((.sl 3 (.one I)), 2)])]⟩
def an100 : An := ⟨fun _ => none,
  fun _ => none,
  fun _ => none⟩
def s100 (n : Nat) : SmF := ⟨sm100, fun x => N.laws_toFloor n x.1 x.2.1 x.2.2⟩
def env100 (n : Nat) : List (FuncId × SmF) := [(77, s77 n)]
theorem ev100 (n : Nat) (x : sm100.ins.D) : evFn (find tbl) (find (env100 n)) an100 n Try.f100 sm100 x = N.laws_toFloor n x.1 x.2.1 x.2.2 := by kernel_rfl
theorem ok100 (n : Nat) : FnOk Try.prog TT 100 (s100 n) := fn_native (an := an100) (n := n) Try.func100 rfl (by kernel_rfl) tblOk (env_cons (ok77 n) body77 env_nil) follows (ev100 n)
theorem body100 : HasBody Try.prog 100 := ⟨_, _, Try.func100, rfl, by kernel_rfl⟩

-- laws_toStack
def sm151 : Sm := ⟨[.val true [I, I, I]], [(true, [(I, 0), (I, 0), (I, 0)])]⟩
def an151 : An := ⟨fun _ => none,
  fun _ => none,
  fun _ => none⟩
def s151 (n : Nat) : SmF := ⟨sm151, fun x => N.laws_toStack x.1 x.2.1 x.2.2⟩
def env151 (n : Nat) : List (FuncId × SmF) := []
theorem ev151 (n : Nat) (x : sm151.ins.D) : evFn (find tbl) (find (env151 n)) an151 n Try.f151 sm151 x = N.laws_toStack x.1 x.2.1 x.2.2 := by kernel_rfl
theorem ok151 (n : Nat) : FnOk Try.prog TT 151 (s151 n) := fn_native (an := an151) (n := n) Try.func151 rfl (by kernel_rfl) tblOk env_nil follows (ev151 n)
theorem body151 : HasBody Try.prog 151 := ⟨_, _, Try.func151, rfl, by kernel_rfl⟩

-- laws_toStackS
def sm148 : Sm := ⟨[.val false [(.sl 195 k2)]], [(false, [((.sl 175 k2), 2)])]⟩
def an148 : An := ⟨fun _ => none,
  fun b => match b with
    | 0 => some ([.slot 4 I, .own 3 175 k2 2 false], false)
    | _ => none,
  fun _ => none⟩
def s148 (n : Nat) : SmF := ⟨sm148, fun x => N.laws_toStackS n x⟩
def env148 (n : Nat) : List (FuncId × SmF) := [(151, s151 n)]
theorem ev148 (n : Nat) (x : sm148.ins.D) : evFn (find tbl) (find (env148 n)) an148 n Try.f148 sm148 x = N.laws_toStackS n x := by kernel_rfl
theorem ok148 (n : Nat) : FnOk Try.prog TT 148 (s148 n) := fn_native (an := an148) (n := n) Try.func148 rfl (by kernel_rfl) tblOk (env_cons (ok151 n) body151 env_nil) follows (ev148 n)
theorem body148 : HasBody Try.prog 148 := ⟨_, _, Try.func148, rfl, by kernel_rfl⟩

-- laws_toPod
def sm142 : Sm := ⟨[.val true [I, I, (.sl 195 k2)]], [(true, [(I, 0), (I, 0), ((.sl 175 k2), 2)])]⟩
def an142 : An := ⟨fun _ => none,
  fun _ => none,
  fun _ => none⟩
def s142 (n : Nat) : SmF := ⟨sm142, fun x => N.laws_toPod n x.1 x.2.1 x.2.2⟩
def env142 (n : Nat) : List (FuncId × SmF) := [(148, s148 n)]
theorem ev142 (n : Nat) (x : sm142.ins.D) : evFn (find tbl) (find (env142 n)) an142 n Try.f142 sm142 x = N.laws_toPod n x.1 x.2.1 x.2.2 := by kernel_rfl
theorem ok142 (n : Nat) : FnOk Try.prog TT 142 (s142 n) := fn_native (an := an142) (n := n) Try.func142 rfl (by kernel_rfl) tblOk (env_cons (ok148 n) body148 env_nil) follows (ev142 n)
theorem body142 : HasBody Try.prog 142 := ⟨_, _, Try.func142, rfl, by kernel_rfl⟩

-- laws_toPodS
def sm127 : Sm := ⟨[.val false [(.sl 185 k9)]], [(false, [((.sl 179 k8), 2)])]⟩
def an127 : An := ⟨fun _ => none,
  fun b => match b with
    | 0 => some ([.slot 4 I, .own 3 179 k8 2 false], false)
    | _ => none,
  fun _ => none⟩
def s127 (n : Nat) : SmF := ⟨sm127, fun x => N.laws_toPodS n x⟩
def env127 (n : Nat) : List (FuncId × SmF) := [(142, s142 n)]
theorem ev127 (n : Nat) (x : sm127.ins.D) : evFn (find tbl) (find (env127 n)) an127 n Try.f127 sm127 x = N.laws_toPodS n x := by kernel_rfl
theorem ok127 (n : Nat) : FnOk Try.prog TT 127 (s127 n) := fn_native (an := an127) (n := n) Try.func127 rfl (by kernel_rfl) tblOk (env_cons (ok142 n) body142 env_nil) follows (ev127 n)
theorem body127 : HasBody Try.prog 127 := ⟨_, _, Try.func127, rfl, by kernel_rfl⟩

-- laws_toStock
def sm101 : Sm := ⟨[.val true [(.sl 185 k9)]], [(true, [((.sl 179 k8), 2)])]⟩
def an101 : An := ⟨fun _ => none,
  fun _ => none,
  fun _ => none⟩
def s101 (n : Nat) : SmF := ⟨sm101, fun x => N.laws_toStock n x⟩
def env101 (n : Nat) : List (FuncId × SmF) := [(127, s127 n)]
theorem ev101 (n : Nat) (x : sm101.ins.D) : evFn (find tbl) (find (env101 n)) an101 n Try.f101 sm101 x = N.laws_toStock n x := by kernel_rfl
theorem ok101 (n : Nat) : FnOk Try.prog TT 101 (s101 n) := fn_native (an := an101) (n := n) Try.func101 rfl (by kernel_rfl) tblOk (env_cons (ok127 n) body127 env_nil) follows (ev101 n)
theorem body101 : HasBody Try.prog 101 := ⟨_, _, Try.func101, rfl, by kernel_rfl⟩

-- laws_toItem
def sm112 : Sm := ⟨[.val true [I, I]], [(true, [(I, 0), (I, 0)])]⟩
def an112 : An := ⟨fun _ => none,
  fun _ => none,
  fun _ => none⟩
def s112 (n : Nat) : SmF := ⟨sm112, fun x => N.laws_toItem x.1 x.2⟩
def env112 (n : Nat) : List (FuncId × SmF) := []
theorem ev112 (n : Nat) (x : sm112.ins.D) : evFn (find tbl) (find (env112 n)) an112 n Try.f112 sm112 x = N.laws_toItem x.1 x.2 := by kernel_rfl
theorem ok112 (n : Nat) : FnOk Try.prog TT 112 (s112 n) := fn_native (an := an112) (n := n) Try.func112 rfl (by kernel_rfl) tblOk env_nil follows (ev112 n)
theorem body112 : HasBody Try.prog 112 := ⟨_, _, Try.func112, rfl, by kernel_rfl⟩

-- laws_toItemS
def sm64 : Sm := ⟨[.val false [(.sl 149 k1)]], [(false, [((.sl 147 k1), 2)])]⟩
def an64 : An := ⟨fun _ => none,
  fun b => match b with
    | 0 => some ([.slot 4 I, .own 3 147 k1 2 false], false)
    | _ => none,
  fun _ => none⟩
def s64 (n : Nat) : SmF := ⟨sm64, fun x => N.laws_toItemS n x⟩
def env64 (n : Nat) : List (FuncId × SmF) := [(112, s112 n)]
theorem ev64 (n : Nat) (x : sm64.ins.D) : evFn (find tbl) (find (env64 n)) an64 n Try.f64 sm64 x = N.laws_toItemS n x := by kernel_rfl
theorem ok64 (n : Nat) : FnOk Try.prog TT 64 (s64 n) := fn_native (an := an64) (n := n) Try.func64 rfl (by kernel_rfl) tblOk (env_cons (ok112 n) body112 env_nil) follows (ev64 n)
theorem body64 : HasBody Try.prog 64 := ⟨_, _, Try.func64, rfl, by kernel_rfl⟩

-- laws_toPick
def sm113 : Sm := ⟨[.val true [I, I, I]], [(true, [(I, 0), (I, 0), (I, 0)])]⟩
def an113 : An := ⟨fun _ => none,
  fun _ => none,
  fun _ => none⟩
def s113 (n : Nat) : SmF := ⟨sm113, fun x => N.laws_toPick x.1 x.2.1 x.2.2⟩
def env113 (n : Nat) : List (FuncId × SmF) := []
theorem ev113 (n : Nat) (x : sm113.ins.D) : evFn (find tbl) (find (env113 n)) an113 n Try.f113 sm113 x = N.laws_toPick x.1 x.2.1 x.2.2 := by kernel_rfl
theorem ok113 (n : Nat) : FnOk Try.prog TT 113 (s113 n) := fn_native (an := an113) (n := n) Try.func113 rfl (by kernel_rfl) tblOk env_nil follows (ev113 n)
theorem body113 : HasBody Try.prog 113 := ⟨_, _, Try.func113, rfl, by kernel_rfl⟩

-- laws_toPickS
def sm65 : Sm := ⟨[.val false [(.sl 151 k2)]], [(false, [((.sl 102 k2), 2)])]⟩
def an65 : An := ⟨fun _ => none,
  fun b => match b with
    | 0 => some ([.slot 4 I, .own 3 102 k2 2 false], false)
    | _ => none,
  fun _ => none⟩
def s65 (n : Nat) : SmF := ⟨sm65, fun x => N.laws_toPickS n x⟩
def env65 (n : Nat) : List (FuncId × SmF) := [(113, s113 n)]
theorem ev65 (n : Nat) (x : sm65.ins.D) : evFn (find tbl) (find (env65 n)) an65 n Try.f65 sm65 x = N.laws_toPickS n x := by kernel_rfl
theorem ok65 (n : Nat) : FnOk Try.prog TT 65 (s65 n) := fn_native (an := an65) (n := n) Try.func65 rfl (by kernel_rfl) tblOk (env_cons (ok113 n) body113 env_nil) follows (ev65 n)
theorem body65 : HasBody Try.prog 65 := ⟨_, _, Try.func65, rfl, by kernel_rfl⟩

-- laws_toOrder
def sm20 : Sm := ⟨[.val true [I, I, (.sl 149 k1), (.sl 151 k2), I]], [(true, [(I, 0), (I, 0), ((.sl 147 k1), 2), ((.sl 102 k2), 2), (I, 0)])]⟩
def an20 : An := ⟨fun _ => none,
  fun _ => none,
  fun _ => none⟩
def s20 (n : Nat) : SmF := ⟨sm20, fun x => N.laws_toOrder n x.1 x.2.1 x.2.2.1 x.2.2.2.1 x.2.2.2.2⟩
def env20 (n : Nat) : List (FuncId × SmF) := [(64, s64 n), (65, s65 n)]
theorem ev20 (n : Nat) (x : sm20.ins.D) : evFn (find tbl) (find (env20 n)) an20 n Try.f20 sm20 x = N.laws_toOrder n x.1 x.2.1 x.2.2.1 x.2.2.2.1 x.2.2.2.2 := by kernel_rfl
theorem ok20 (n : Nat) : FnOk Try.prog TT 20 (s20 n) := fn_native (an := an20) (n := n) Try.func20 rfl (by kernel_rfl) tblOk (env_cons (ok64 n) body64 (env_cons (ok65 n) body65 env_nil)) follows (ev20 n)
theorem body20 : HasBody Try.prog 20 := ⟨_, _, Try.func20, rfl, by kernel_rfl⟩

-- laws_toOrderS
def sm85 : Sm := ⟨[.val false [(.sl 33 k10)]], [(false, [((.sl 39 k11), 2)])]⟩
def an85 : An := ⟨fun _ => none,
  fun b => match b with
    | 0 => some ([.slot 4 I, .own 3 39 k11 2 false], false)
    | _ => none,
  fun _ => none⟩
def s85 (n : Nat) : SmF := ⟨sm85, fun x => N.laws_toOrderS n x⟩
def env85 (n : Nat) : List (FuncId × SmF) := [(20, s20 n)]
theorem ev85 (n : Nat) (x : sm85.ins.D) : evFn (find tbl) (find (env85 n)) an85 n Try.f85 sm85 x = N.laws_toOrderS n x := by kernel_rfl
theorem ok85 (n : Nat) : FnOk Try.prog TT 85 (s85 n) := fn_native (an := an85) (n := n) Try.func85 rfl (by kernel_rfl) tblOk (env_cons (ok20 n) body20 env_nil) follows (ev85 n)
theorem body85 : HasBody Try.prog 85 := ⟨_, _, Try.func85, rfl, by kernel_rfl⟩

-- laws_toBook
def sm38 : Sm := ⟨[.val true [I, (.sl 33 k10)]], [(true, [(I, 0), ((.sl 39 k11), 2)])]⟩
def an38 : An := ⟨fun _ => none,
  fun _ => none,
  fun _ => none⟩
def s38 (n : Nat) : SmF := ⟨sm38, fun x => N.laws_toBook n x.1 x.2⟩
def env38 (n : Nat) : List (FuncId × SmF) := [(85, s85 n)]
theorem ev38 (n : Nat) (x : sm38.ins.D) : evFn (find tbl) (find (env38 n)) an38 n Try.f38 sm38 x = N.laws_toBook n x.1 x.2 := by kernel_rfl
theorem ok38 (n : Nat) : FnOk Try.prog TT 38 (s38 n) := fn_native (an := an38) (n := n) Try.func38 rfl (by kernel_rfl) tblOk (env_cons (ok85 n) body85 env_nil) follows (ev38 n)
theorem body38 : HasBody Try.prog 38 := ⟨_, _, Try.func38, rfl, by kernel_rfl⟩

-- laws_toRobot
def sm128 : Sm := ⟨[.val true [I, I, I, .bool, I]], [(true, [(I, 0), (I, 0), (I, 0), (.bool, 0), (I, 0)])]⟩
def an128 : An := ⟨fun _ => none,
  fun _ => none,
  fun _ => none⟩
def s128 (n : Nat) : SmF := ⟨sm128, fun x => N.laws_toRobot x.1 x.2.1 x.2.2.1 x.2.2.2.1 x.2.2.2.2⟩
def env128 (n : Nat) : List (FuncId × SmF) := []
theorem ev128 (n : Nat) (x : sm128.ins.D) : evFn (find tbl) (find (env128 n)) an128 n Try.f128 sm128 x = N.laws_toRobot x.1 x.2.1 x.2.2.1 x.2.2.2.1 x.2.2.2.2 := by kernel_rfl
theorem ok128 (n : Nat) : FnOk Try.prog TT 128 (s128 n) := fn_native (an := an128) (n := n) Try.func128 rfl (by kernel_rfl) tblOk env_nil follows (ev128 n)
theorem body128 : HasBody Try.prog 128 := ⟨_, _, Try.func128, rfl, by kernel_rfl⟩

-- laws_toRobotS
def sm102 : Sm := ⟨[.val false [(.sl 165 k6)]], [(false, [((.sl 135 k6), 2)])]⟩
def an102 : An := ⟨fun _ => none,
  fun b => match b with
    | 0 => some ([.slot 4 I, .own 3 135 k6 2 false], false)
    | _ => none,
  fun _ => none⟩
def s102 (n : Nat) : SmF := ⟨sm102, fun x => N.laws_toRobotS n x⟩
def env102 (n : Nat) : List (FuncId × SmF) := [(128, s128 n)]
theorem ev102 (n : Nat) (x : sm102.ins.D) : evFn (find tbl) (find (env102 n)) an102 n Try.f102 sm102 x = N.laws_toRobotS n x := by kernel_rfl
theorem ok102 (n : Nat) : FnOk Try.prog TT 102 (s102 n) := fn_native (an := an102) (n := n) Try.func102 rfl (by kernel_rfl) tblOk (env_cons (ok128 n) body128 env_nil) follows (ev102 n)
theorem body102 : HasBody Try.prog 102 := ⟨_, _, Try.func102, rfl, by kernel_rfl⟩

-- laws_toTask
def sm129 : Sm := ⟨[.val true [I, I, I, I]], [(true, [(I, 0), (I, 0), (I, 0), (I, 0)])]⟩
def an129 : An := ⟨fun _ => none,
  fun _ => none,
  fun _ => none⟩
def s129 (n : Nat) : SmF := ⟨sm129, fun x => N.laws_toTask x.1 x.2.1 x.2.2.1 x.2.2.2⟩
def env129 (n : Nat) : List (FuncId × SmF) := []
theorem ev129 (n : Nat) (x : sm129.ins.D) : evFn (find tbl) (find (env129 n)) an129 n Try.f129 sm129 x = N.laws_toTask x.1 x.2.1 x.2.2.1 x.2.2.2 := by kernel_rfl
theorem ok129 (n : Nat) : FnOk Try.prog TT 129 (s129 n) := fn_native (an := an129) (n := n) Try.func129 rfl (by kernel_rfl) tblOk env_nil follows (ev129 n)
theorem body129 : HasBody Try.prog 129 := ⟨_, _, Try.func129, rfl, by kernel_rfl⟩

-- laws_toTaskS
def sm103 : Sm := ⟨[.val false [(.sl 167 k5)]], [(false, [((.sl 110 k5), 2)])]⟩
def an103 : An := ⟨fun _ => none,
  fun b => match b with
    | 0 => some ([.slot 4 I, .own 3 110 k5 2 false], false)
    | _ => none,
  fun _ => none⟩
def s103 (n : Nat) : SmF := ⟨sm103, fun x => N.laws_toTaskS n x⟩
def env103 (n : Nat) : List (FuncId × SmF) := [(129, s129 n)]
theorem ev103 (n : Nat) (x : sm103.ins.D) : evFn (find tbl) (find (env103 n)) an103 n Try.f103 sm103 x = N.laws_toTaskS n x := by kernel_rfl
theorem ok103 (n : Nat) : FnOk Try.prog TT 103 (s103 n) := fn_native (an := an103) (n := n) Try.func103 rfl (by kernel_rfl) tblOk (env_cons (ok129 n) body129 env_nil) follows (ev103 n)
theorem body103 : HasBody Try.prog 103 := ⟨_, _, Try.func103, rfl, by kernel_rfl⟩

-- laws_toDepot
def sm47 : Sm := ⟨[.val true [I, I, (.sl 3 (.one I)), (.sl 185 k9), I, (.sl 33 k10), (.sl 165 k6), (.sl 167 k5), (.sl 3 (.one I)), (.sl 3 (.one I)), I]], [(true, [(I, 0), (I, 0), ((.sl 3 (.one I)), 2), ((.sl 179 k8), 2), (I, 0), ((.sl 39 k11), 2), ((.sl 135 k6), 2), ((.sl 110 k5), 2), ((.sl 3 (.one I)), 2), ((.sl 3 (.one I)), 2), (I, 0)])]⟩
def an47 : An := ⟨fun _ => none,
  fun _ => none,
  fun _ => none⟩
def s47 (n : Nat) : SmF := ⟨sm47, fun x => N.laws_toDepot n x.1 x.2.1 x.2.2.1 x.2.2.2.1 x.2.2.2.2.1 x.2.2.2.2.2.1 x.2.2.2.2.2.2.1 x.2.2.2.2.2.2.2.1 x.2.2.2.2.2.2.2.2.1 x.2.2.2.2.2.2.2.2.2.1 x.2.2.2.2.2.2.2.2.2.2⟩
def env47 (n : Nat) : List (FuncId × SmF) := [(38, s38 n), (77, s77 n), (100, s100 n), (101, s101 n), (102, s102 n), (103, s103 n)]
theorem ev47 (n : Nat) (x : sm47.ins.D) : evFn (find tbl) (find (env47 n)) an47 n Try.f47 sm47 x = N.laws_toDepot n x.1 x.2.1 x.2.2.1 x.2.2.2.1 x.2.2.2.2.1 x.2.2.2.2.2.1 x.2.2.2.2.2.2.1 x.2.2.2.2.2.2.2.1 x.2.2.2.2.2.2.2.2.1 x.2.2.2.2.2.2.2.2.2.1 x.2.2.2.2.2.2.2.2.2.2 := by kernel_rfl
theorem ok47 (n : Nat) : FnOk Try.prog TT 47 (s47 n) := fn_native (an := an47) (n := n) Try.func47 rfl (by kernel_rfl) tblOk (env_cons (ok38 n) body38 (env_cons (ok77 n) body77 (env_cons (ok100 n) body100 (env_cons (ok101 n) body101 (env_cons (ok102 n) body102 (env_cons (ok103 n) body103 env_nil)))))) follows (ev47 n)
theorem body47 : HasBody Try.prog 47 := ⟨_, _, Try.func47, rfl, by kernel_rfl⟩

-- spec_l1In
def sm76 : Sm := ⟨[.val false [I], .val false [I], .val false [I]], [(false, [(.bool, 0)])]⟩
def an76 : An := ⟨fun _ => none,
  fun _ => none,
  fun _ => none⟩
def s76 (n : Nat) : SmF := ⟨sm76, fun x => N.spec_l1In x.1 x.2.1 x.2.2⟩
def env76 (n : Nat) : List (FuncId × SmF) := []
theorem ev76 (n : Nat) (x : sm76.ins.D) : evFn (find tbl) (find (env76 n)) an76 n Try.f76 sm76 x = N.spec_l1In x.1 x.2.1 x.2.2 := by kernel_rfl
theorem ok76 (n : Nat) : FnOk Try.prog TT 76 (s76 n) := fn_native (an := an76) (n := n) Try.func76 rfl (by kernel_rfl) tblOk env_nil follows (ev76 n)
theorem body76 : HasBody Try.prog 76 := ⟨_, _, Try.func76, rfl, by kernel_rfl⟩

-- spec_l5Stacks
def sm145 : Sm := ⟨[.val false [(.sl 175 k2)]], [(false, [(.bool, 0)])]⟩
def an145 : An := ⟨fun _ => none,
  fun b => match b with
    | 0 => some ([.slot 3 I], true)
    | _ => none,
  fun _ => none⟩
def s145 (n : Nat) : SmF := ⟨sm145, fun x => N.spec_l5Stacks n x⟩
def env145 (n : Nat) : List (FuncId × SmF) := [(76, s76 n)]
theorem ev145 (n : Nat) (x : sm145.ins.D) : evFn (find tbl) (find (env145 n)) an145 n Try.f145 sm145 x = N.spec_l5Stacks n x := by kernel_rfl
theorem ok145 (n : Nat) : FnOk Try.prog TT 145 (s145 n) := fn_native (an := an145) (n := n) Try.func145 rfl (by kernel_rfl) tblOk (env_cons (ok76 n) body76 env_nil) follows (ev145 n)
theorem body145 : HasBody Try.prog 145 := ⟨_, _, Try.func145, rfl, by kernel_rfl⟩

-- spec_StockOk
def sm136 : Sm := ⟨[.val true [(.sl 179 k8)]], [(false, [(.bool, 0)])]⟩
def an136 : An := ⟨fun _ => none,
  fun b => match b with
    | 0 => some ([.slot 3 I], true)
    | 2 => some ([.slot 5 I], true)
    | _ => none,
  fun _ => none⟩
def s136 (n : Nat) : SmF := ⟨sm136, fun x => N.spec_StockOk n x⟩
def env136 (n : Nat) : List (FuncId × SmF) := [(76, s76 n), (145, s145 n)]
theorem ev136 (n : Nat) (x : sm136.ins.D) : evFn (find tbl) (find (env136 n)) an136 n Try.f136 sm136 x = N.spec_StockOk n x := by kernel_rfl
theorem ok136 (n : Nat) : FnOk Try.prog TT 136 (s136 n) := fn_native (an := an136) (n := n) Try.func136 rfl (by kernel_rfl) tblOk (env_cons (ok76 n) body76 (env_cons (ok145 n) body145 env_nil)) follows (ev136 n)
theorem body136 : HasBody Try.prog 136 := ⟨_, _, Try.func136, rfl, by kernel_rfl⟩

-- spec_l5Stack
def sm137 : Sm := ⟨[.val true [I, I, (.sl 175 k2)], .val false [I]], [(true, [(I, 0), (I, 0), (I, 0)])]⟩
def an137 : An := ⟨fun _ => none,
  fun b => match b with
    | 0 => some ([.slot 5 I, .box 4 [some (I, 0), some (I, 0), some (I, 0)]], true)
    | _ => none,
  fun _ => none⟩
def s137 (n : Nat) : SmF := ⟨sm137, fun x => N.spec_l5Stack n x.1 x.2.1 x.2.2.1 x.2.2.2⟩
def env137 (n : Nat) : List (FuncId × SmF) := []
theorem ev137 (n : Nat) (x : sm137.ins.D) : evFn (find tbl) (find (env137 n)) an137 n Try.f137 sm137 x = N.spec_l5Stack n x.1 x.2.1 x.2.2.1 x.2.2.2 := by kernel_rfl
theorem ok137 (n : Nat) : FnOk Try.prog TT 137 (s137 n) := fn_native (an := an137) (n := n) Try.func137 rfl (by kernel_rfl) tblOk env_nil follows (ev137 n)
theorem body137 : HasBody Try.prog 137 := ⟨_, _, Try.func137, rfl, by kernel_rfl⟩

-- spec_Count
def sm109 : Sm := ⟨[.val true [(.sl 179 k8)], .val false [I]], [(false, [(I, 0)])]⟩
def an109 : An := ⟨fun _ => none,
  fun b => match b with
    | 0 => some ([.slot 5 I, .slot 6 I], false)
    | _ => none,
  fun _ => none⟩
def s109 (n : Nat) : SmF := ⟨sm109, fun x => N.spec_Count n x.1 x.2⟩
def env109 (n : Nat) : List (FuncId × SmF) := [(136, s136 n), (137, s137 n)]
theorem ev109 (n : Nat) (x : sm109.ins.D) : evFn (find tbl) (find (env109 n)) an109 n Try.f109 sm109 x = N.spec_Count n x.1 x.2 := by kernel_rfl
theorem ok109 (n : Nat) : FnOk Try.prog TT 109 (s109 n) := fn_native (an := an109) (n := n) Try.func109 rfl (by kernel_rfl) tblOk (env_cons (ok136 n) body136 (env_cons (ok137 n) body137 env_nil)) follows (ev109 n)
theorem body109 : HasBody Try.prog 109 := ⟨_, _, Try.func109, rfl, by kernel_rfl⟩

-- spec_Pieces
def sm54 : Sm := ⟨[.val true [I, I, (.sl 3 (.one I)), (.sl 179 k8), I, (.sl 39 k11), (.sl 135 k6), (.sl 110 k5), (.sl 3 (.one I)), (.sl 3 (.one I)), I]], [(false, [(.bool, 0)])]⟩
def an54 : An := ⟨fun _ => none,
  fun b => match b with
    | 0 => some ([.slot 3 I], true)
    | _ => none,
  fun _ => none⟩
def s54 (n : Nat) : SmF := ⟨sm54, fun x => N.spec_Pieces n x.1 x.2.1 x.2.2.1 x.2.2.2.1 x.2.2.2.2.1 x.2.2.2.2.2.1 x.2.2.2.2.2.2.1 x.2.2.2.2.2.2.2.1 x.2.2.2.2.2.2.2.2.1 x.2.2.2.2.2.2.2.2.2.1 x.2.2.2.2.2.2.2.2.2.2⟩
def env54 (n : Nat) : List (FuncId × SmF) := [(76, s76 n), (109, s109 n)]
theorem ev54 (n : Nat) (x : sm54.ins.D) : evFn (find tbl) (find (env54 n)) an54 n Try.f54 sm54 x = N.spec_Pieces n x.1 x.2.1 x.2.2.1 x.2.2.2.1 x.2.2.2.2.1 x.2.2.2.2.2.1 x.2.2.2.2.2.2.1 x.2.2.2.2.2.2.2.1 x.2.2.2.2.2.2.2.2.1 x.2.2.2.2.2.2.2.2.2.1 x.2.2.2.2.2.2.2.2.2.2 := by kernel_rfl
theorem ok54 (n : Nat) : FnOk Try.prog TT 54 (s54 n) := fn_native (an := an54) (n := n) Try.func54 rfl (by kernel_rfl) tblOk (env_cons (ok76 n) body76 (env_cons (ok109 n) body109 env_nil)) follows (ev54 n)
theorem body54 : HasBody Try.prog 54 := ⟨_, _, Try.func54, rfl, by kernel_rfl⟩

-- impl_in
def sm81 : Sm := ⟨[.val false [I], .val false [I], .val false [I]], [(false, [(.bool, 0)])]⟩
def an81 : An := ⟨fun _ => none,
  fun _ => none,
  fun _ => none⟩
def s81 (n : Nat) : SmF := ⟨sm81, fun x => N.impl_in x.1 x.2.1 x.2.2⟩
def env81 (n : Nat) : List (FuncId × SmF) := []
theorem ev81 (n : Nat) (x : sm81.ins.D) : evFn (find tbl) (find (env81 n)) an81 n Try.f81 sm81 x = N.impl_in x.1 x.2.1 x.2.2 := by kernel_rfl
theorem ok81 (n : Nat) : FnOk Try.prog TT 81 (s81 n) := fn_native (an := an81) (n := n) Try.func81 rfl (by kernel_rfl) tblOk env_nil follows (ev81 n)
theorem body81 : HasBody Try.prog 81 := ⟨_, _, Try.func81, rfl, by kernel_rfl⟩

-- impl_podOk
def sm146 : Sm := ⟨[.val true [I, I, (.sl 175 k2)]], [(false, [(.bool, 0)])]⟩
def an146 : An := ⟨fun _ => none,
  fun b => match b with
    | 0 => some ([.slot 24 I], true)
    | _ => none,
  fun _ => none⟩
def s146 (n : Nat) : SmF := ⟨sm146, fun x => N.impl_podOk n x.1 x.2.1 x.2.2⟩
def env146 (n : Nat) : List (FuncId × SmF) := [(81, s81 n)]
theorem ev146 (n : Nat) (x : sm146.ins.D) : evFn (find tbl) (find (env146 n)) an146 n Try.f146 sm146 x = N.impl_podOk n x.1 x.2.1 x.2.2 := by kernel_rfl
theorem ok146 (n : Nat) : FnOk Try.prog TT 146 (s146 n) := fn_native (an := an146) (n := n) Try.func146 rfl (by kernel_rfl) tblOk (env_cons (ok81 n) body81 env_nil) follows (ev146 n)
theorem body146 : HasBody Try.prog 146 := ⟨_, _, Try.func146, rfl, by kernel_rfl⟩

-- impl_StockOk
def sm138 : Sm := ⟨[.val true [(.sl 179 k8)]], [(false, [(.bool, 0)])]⟩
def an138 : An := ⟨fun _ => none,
  fun b => match b with
    | 0 => some ([.slot 10 I], true)
    | 2 => some ([.slot 39 I], true)
    | _ => none,
  fun _ => none⟩
def s138 (n : Nat) : SmF := ⟨sm138, fun x => N.impl_StockOk n x⟩
def env138 (n : Nat) : List (FuncId × SmF) := [(146, s146 n)]
theorem ev138 (n : Nat) (x : sm138.ins.D) : evFn (find tbl) (find (env138 n)) an138 n Try.f138 sm138 x = N.impl_StockOk n x := by kernel_rfl
theorem ok138 (n : Nat) : FnOk Try.prog TT 138 (s138 n) := fn_native (an := an138) (n := n) Try.func138 rfl (by kernel_rfl) tblOk (env_cons (ok146 n) body146 env_nil) follows (ev138 n)
theorem body138 : HasBody Try.prog 138 := ⟨_, _, Try.func138, rfl, by kernel_rfl⟩

-- impl_stackAt
def sm139 : Sm := ⟨[.val true [I, I, (.sl 175 k2)], .val false [I]], [(false, [(I, 0)]), (false, [(.bool, 0)])]⟩
def an139 : An := ⟨fun b => match b with
    | 4 => some [.slot 4 I, .slot 5 .bool]
    | _ => none,
  fun b => match b with
    | 0 => some ([.slot 6 I], false)
    | _ => none,
  fun _ => none⟩
def s139 (n : Nat) : SmF := ⟨sm139, fun x => N.impl_stackAt n x.1 x.2.1 x.2.2.1 x.2.2.2⟩
def env139 (n : Nat) : List (FuncId × SmF) := []
theorem ev139 (n : Nat) (x : sm139.ins.D) : evFn (find tbl) (find (env139 n)) an139 n Try.f139 sm139 x = N.impl_stackAt n x.1 x.2.1 x.2.2.1 x.2.2.2 := by kernel_rfl
theorem ok139 (n : Nat) : FnOk Try.prog TT 139 (s139 n) := fn_native (an := an139) (n := n) Try.func139 rfl (by kernel_rfl) tblOk env_nil follows (ev139 n)
theorem body139 : HasBody Try.prog 139 := ⟨_, _, Try.func139, rfl, by kernel_rfl⟩

-- impl_Count
def sm110 : Sm := ⟨[.val true [(.sl 179 k8)], .val false [I]], [(false, [(I, 0)])]⟩
def an110 : An := ⟨fun _ => none,
  fun b => match b with
    | 0 => some ([.slot 5 I, .slot 17 I], false)
    | _ => none,
  fun b => match b with
    | 7 => some ([.slot 5 I], false)
    | _ => none⟩
def s110 (n : Nat) : SmF := ⟨sm110, fun x => N.impl_Count n x.1 x.2⟩
def env110 (n : Nat) : List (FuncId × SmF) := [(138, s138 n), (139, s139 n)]
theorem ev110 (n : Nat) (x : sm110.ins.D) : evFn (find tbl) (find (env110 n)) an110 n Try.f110 sm110 x = N.impl_Count n x.1 x.2 := by kernel_rfl
theorem ok110 (n : Nat) : FnOk Try.prog TT 110 (s110 n) := fn_native (an := an110) (n := n) Try.func110 rfl (by kernel_rfl) tblOk (env_cons (ok138 n) body138 (env_cons (ok139 n) body139 env_nil)) follows (ev110 n)
theorem body110 : HasBody Try.prog 110 := ⟨_, _, Try.func110, rfl, by kernel_rfl⟩

-- impl_Pieces
def sm55 : Sm := ⟨[.val true [I, I, (.sl 3 (.one I)), (.sl 179 k8), I, (.sl 39 k11), (.sl 135 k6), (.sl 110 k5), (.sl 3 (.one I)), (.sl 3 (.one I)), I]], [(false, [(.bool, 0)])]⟩
def an55 : An := ⟨fun _ => none,
  fun b => match b with
    | 0 => some ([.slot 3 I], true)
    | _ => none,
  fun _ => none⟩
def s55 (n : Nat) : SmF := ⟨sm55, fun x => N.impl_Pieces n x.1 x.2.1 x.2.2.1 x.2.2.2.1 x.2.2.2.2.1 x.2.2.2.2.2.1 x.2.2.2.2.2.2.1 x.2.2.2.2.2.2.2.1 x.2.2.2.2.2.2.2.2.1 x.2.2.2.2.2.2.2.2.2.1 x.2.2.2.2.2.2.2.2.2.2⟩
def env55 (n : Nat) : List (FuncId × SmF) := [(81, s81 n), (110, s110 n)]
theorem ev55 (n : Nat) (x : sm55.ins.D) : evFn (find tbl) (find (env55 n)) an55 n Try.f55 sm55 x = N.impl_Pieces n x.1 x.2.1 x.2.2.1 x.2.2.2.1 x.2.2.2.2.1 x.2.2.2.2.2.1 x.2.2.2.2.2.2.1 x.2.2.2.2.2.2.2.1 x.2.2.2.2.2.2.2.2.1 x.2.2.2.2.2.2.2.2.2.1 x.2.2.2.2.2.2.2.2.2.2 := by kernel_rfl
theorem ok55 (n : Nat) : FnOk Try.prog TT 55 (s55 n) := fn_native (an := an55) (n := n) Try.func55 rfl (by kernel_rfl) tblOk (env_cons (ok81 n) body81 (env_cons (ok110 n) body110 env_nil)) follows (ev55 n)
theorem body55 : HasBody Try.prog 55 := ⟨_, _, Try.func55, rfl, by kernel_rfl⟩

-- laws_eqIntS
def sm56 : Sm := ⟨[.val false [(.sl 3 (.one I))], .val false [(.sl 3 (.one I))]], [(false, [(.bool, 0)])]⟩
def an56 : An := ⟨fun _ => none,
  fun b => match b with
    | 0 => some ([.slot 5 I], true)
    | _ => none,
  fun _ => none⟩
def s56 (n : Nat) : SmF := ⟨sm56, fun x => N.laws_eqIntS n x.1 x.2⟩
def env56 (n : Nat) : List (FuncId × SmF) := []
theorem ev56 (n : Nat) (x : sm56.ins.D) : evFn (find tbl) (find (env56 n)) an56 n Try.f56 sm56 x = N.laws_eqIntS n x.1 x.2 := by kernel_rfl
theorem ok56 (n : Nat) : FnOk Try.prog TT 56 (s56 n) := fn_native (an := an56) (n := n) Try.func56 rfl (by kernel_rfl) tblOk env_nil follows (ev56 n)
theorem body56 : HasBody Try.prog 56 := ⟨_, _, Try.func56, rfl, by kernel_rfl⟩

-- laws_eqFloor
def sm104 : Sm := ⟨[.val true [I, I, (.sl 3 (.one I))], .val true [I, I, (.sl 3 (.one I))]], [(false, [(.bool, 0)])]⟩
def an104 : An := ⟨fun _ => none,
  fun _ => none,
  fun _ => none⟩
def s104 (n : Nat) : SmF := ⟨sm104, fun x => N.laws_eqFloor n x.1 x.2.1 x.2.2.1 x.2.2.2.1 x.2.2.2.2.1 x.2.2.2.2.2⟩
def env104 (n : Nat) : List (FuncId × SmF) := [(56, s56 n)]
theorem ev104 (n : Nat) (x : sm104.ins.D) : evFn (find tbl) (find (env104 n)) an104 n Try.f104 sm104 x = N.laws_eqFloor n x.1 x.2.1 x.2.2.1 x.2.2.2.1 x.2.2.2.2.1 x.2.2.2.2.2 := by kernel_rfl
theorem ok104 (n : Nat) : FnOk Try.prog TT 104 (s104 n) := fn_native (an := an104) (n := n) Try.func104 rfl (by kernel_rfl) tblOk (env_cons (ok56 n) body56 env_nil) follows (ev104 n)
theorem body104 : HasBody Try.prog 104 := ⟨_, _, Try.func104, rfl, by kernel_rfl⟩

-- laws_eqStack
def sm152 : Sm := ⟨[.val true [I, I, I], .val true [I, I, I]], [(false, [(.bool, 0)])]⟩
def an152 : An := ⟨fun _ => none,
  fun _ => none,
  fun _ => none⟩
def s152 (n : Nat) : SmF := ⟨sm152, fun x => N.laws_eqStack x.1 x.2.1 x.2.2.1 x.2.2.2.1 x.2.2.2.2.1 x.2.2.2.2.2⟩
def env152 (n : Nat) : List (FuncId × SmF) := []
theorem ev152 (n : Nat) (x : sm152.ins.D) : evFn (find tbl) (find (env152 n)) an152 n Try.f152 sm152 x = N.laws_eqStack x.1 x.2.1 x.2.2.1 x.2.2.2.1 x.2.2.2.2.1 x.2.2.2.2.2 := by kernel_rfl
theorem ok152 (n : Nat) : FnOk Try.prog TT 152 (s152 n) := fn_native (an := an152) (n := n) Try.func152 rfl (by kernel_rfl) tblOk env_nil follows (ev152 n)
theorem body152 : HasBody Try.prog 152 := ⟨_, _, Try.func152, rfl, by kernel_rfl⟩

-- laws_eqStackS
def sm149 : Sm := ⟨[.val false [(.sl 175 k2)], .val false [(.sl 175 k2)]], [(false, [(.bool, 0)])]⟩
def an149 : An := ⟨fun _ => none,
  fun b => match b with
    | 0 => some ([.slot 5 I], true)
    | _ => none,
  fun _ => none⟩
def s149 (n : Nat) : SmF := ⟨sm149, fun x => N.laws_eqStackS n x.1 x.2⟩
def env149 (n : Nat) : List (FuncId × SmF) := [(152, s152 n)]
theorem ev149 (n : Nat) (x : sm149.ins.D) : evFn (find tbl) (find (env149 n)) an149 n Try.f149 sm149 x = N.laws_eqStackS n x.1 x.2 := by kernel_rfl
theorem ok149 (n : Nat) : FnOk Try.prog TT 149 (s149 n) := fn_native (an := an149) (n := n) Try.func149 rfl (by kernel_rfl) tblOk (env_cons (ok152 n) body152 env_nil) follows (ev149 n)
theorem body149 : HasBody Try.prog 149 := ⟨_, _, Try.func149, rfl, by kernel_rfl⟩

-- laws_eqPod
def sm143 : Sm := ⟨[.val true [I, I, (.sl 175 k2)], .val true [I, I, (.sl 175 k2)]], [(false, [(.bool, 0)])]⟩
def an143 : An := ⟨fun _ => none,
  fun _ => none,
  fun _ => none⟩
def s143 (n : Nat) : SmF := ⟨sm143, fun x => N.laws_eqPod n x.1 x.2.1 x.2.2.1 x.2.2.2.1 x.2.2.2.2.1 x.2.2.2.2.2⟩
def env143 (n : Nat) : List (FuncId × SmF) := [(149, s149 n)]
theorem ev143 (n : Nat) (x : sm143.ins.D) : evFn (find tbl) (find (env143 n)) an143 n Try.f143 sm143 x = N.laws_eqPod n x.1 x.2.1 x.2.2.1 x.2.2.2.1 x.2.2.2.2.1 x.2.2.2.2.2 := by kernel_rfl
theorem ok143 (n : Nat) : FnOk Try.prog TT 143 (s143 n) := fn_native (an := an143) (n := n) Try.func143 rfl (by kernel_rfl) tblOk (env_cons (ok149 n) body149 env_nil) follows (ev143 n)
theorem body143 : HasBody Try.prog 143 := ⟨_, _, Try.func143, rfl, by kernel_rfl⟩

-- laws_eqPodS
def sm130 : Sm := ⟨[.val false [(.sl 179 k8)], .val false [(.sl 179 k8)]], [(false, [(.bool, 0)])]⟩
def an130 : An := ⟨fun _ => none,
  fun b => match b with
    | 0 => some ([.slot 5 I], true)
    | _ => none,
  fun _ => none⟩
def s130 (n : Nat) : SmF := ⟨sm130, fun x => N.laws_eqPodS n x.1 x.2⟩
def env130 (n : Nat) : List (FuncId × SmF) := [(143, s143 n)]
theorem ev130 (n : Nat) (x : sm130.ins.D) : evFn (find tbl) (find (env130 n)) an130 n Try.f130 sm130 x = N.laws_eqPodS n x.1 x.2 := by kernel_rfl
theorem ok130 (n : Nat) : FnOk Try.prog TT 130 (s130 n) := fn_native (an := an130) (n := n) Try.func130 rfl (by kernel_rfl) tblOk (env_cons (ok143 n) body143 env_nil) follows (ev130 n)
theorem body130 : HasBody Try.prog 130 := ⟨_, _, Try.func130, rfl, by kernel_rfl⟩

-- laws_eqStock
def sm105 : Sm := ⟨[.val true [(.sl 179 k8)], .val true [(.sl 179 k8)]], [(false, [(.bool, 0)])]⟩
def an105 : An := ⟨fun _ => none,
  fun _ => none,
  fun _ => none⟩
def s105 (n : Nat) : SmF := ⟨sm105, fun x => N.laws_eqStock n x.1 x.2⟩
def env105 (n : Nat) : List (FuncId × SmF) := [(130, s130 n)]
theorem ev105 (n : Nat) (x : sm105.ins.D) : evFn (find tbl) (find (env105 n)) an105 n Try.f105 sm105 x = N.laws_eqStock n x.1 x.2 := by kernel_rfl
theorem ok105 (n : Nat) : FnOk Try.prog TT 105 (s105 n) := fn_native (an := an105) (n := n) Try.func105 rfl (by kernel_rfl) tblOk (env_cons (ok130 n) body130 env_nil) follows (ev105 n)
theorem body105 : HasBody Try.prog 105 := ⟨_, _, Try.func105, rfl, by kernel_rfl⟩

-- laws_eqItem
def sm114 : Sm := ⟨[.val true [I, I], .val true [I, I]], [(false, [(.bool, 0)])]⟩
def an114 : An := ⟨fun _ => none,
  fun _ => none,
  fun _ => none⟩
def s114 (n : Nat) : SmF := ⟨sm114, fun x => N.laws_eqItem x.1 x.2.1 x.2.2.1 x.2.2.2⟩
def env114 (n : Nat) : List (FuncId × SmF) := []
theorem ev114 (n : Nat) (x : sm114.ins.D) : evFn (find tbl) (find (env114 n)) an114 n Try.f114 sm114 x = N.laws_eqItem x.1 x.2.1 x.2.2.1 x.2.2.2 := by kernel_rfl
theorem ok114 (n : Nat) : FnOk Try.prog TT 114 (s114 n) := fn_native (an := an114) (n := n) Try.func114 rfl (by kernel_rfl) tblOk env_nil follows (ev114 n)
theorem body114 : HasBody Try.prog 114 := ⟨_, _, Try.func114, rfl, by kernel_rfl⟩

-- laws_eqItemS
def sm67 : Sm := ⟨[.val false [(.sl 147 k1)], .val false [(.sl 147 k1)]], [(false, [(.bool, 0)])]⟩
def an67 : An := ⟨fun _ => none,
  fun b => match b with
    | 0 => some ([.slot 5 I], true)
    | _ => none,
  fun _ => none⟩
def s67 (n : Nat) : SmF := ⟨sm67, fun x => N.laws_eqItemS n x.1 x.2⟩
def env67 (n : Nat) : List (FuncId × SmF) := [(114, s114 n)]
theorem ev67 (n : Nat) (x : sm67.ins.D) : evFn (find tbl) (find (env67 n)) an67 n Try.f67 sm67 x = N.laws_eqItemS n x.1 x.2 := by kernel_rfl
theorem ok67 (n : Nat) : FnOk Try.prog TT 67 (s67 n) := fn_native (an := an67) (n := n) Try.func67 rfl (by kernel_rfl) tblOk (env_cons (ok114 n) body114 env_nil) follows (ev67 n)
theorem body67 : HasBody Try.prog 67 := ⟨_, _, Try.func67, rfl, by kernel_rfl⟩

-- laws_eqPick
def sm66 : Sm := ⟨[.val true [I, I, I], .val true [I, I, I]], [(false, [(.bool, 0)])]⟩
def an66 : An := ⟨fun _ => none,
  fun _ => none,
  fun _ => none⟩
def s66 (n : Nat) : SmF := ⟨sm66, fun x => N.laws_eqPick x.1 x.2.1 x.2.2.1 x.2.2.2.1 x.2.2.2.2.1 x.2.2.2.2.2⟩
def env66 (n : Nat) : List (FuncId × SmF) := []
theorem ev66 (n : Nat) (x : sm66.ins.D) : evFn (find tbl) (find (env66 n)) an66 n Try.f66 sm66 x = N.laws_eqPick x.1 x.2.1 x.2.2.1 x.2.2.2.1 x.2.2.2.2.1 x.2.2.2.2.2 := by kernel_rfl
theorem ok66 (n : Nat) : FnOk Try.prog TT 66 (s66 n) := fn_native (an := an66) (n := n) Try.func66 rfl (by kernel_rfl) tblOk env_nil follows (ev66 n)
theorem body66 : HasBody Try.prog 66 := ⟨_, _, Try.func66, rfl, by kernel_rfl⟩

-- laws_eqPickS
def sm22 : Sm := ⟨[.val false [(.sl 102 k2)], .val false [(.sl 102 k2)]], [(false, [(.bool, 0)])]⟩
def an22 : An := ⟨fun _ => none,
  fun b => match b with
    | 0 => some ([.slot 5 I], true)
    | _ => none,
  fun _ => none⟩
def s22 (n : Nat) : SmF := ⟨sm22, fun x => N.laws_eqPickS n x.1 x.2⟩
def env22 (n : Nat) : List (FuncId × SmF) := [(66, s66 n)]
theorem ev22 (n : Nat) (x : sm22.ins.D) : evFn (find tbl) (find (env22 n)) an22 n Try.f22 sm22 x = N.laws_eqPickS n x.1 x.2 := by kernel_rfl
theorem ok22 (n : Nat) : FnOk Try.prog TT 22 (s22 n) := fn_native (an := an22) (n := n) Try.func22 rfl (by kernel_rfl) tblOk (env_cons (ok66 n) body66 env_nil) follows (ev22 n)
theorem body22 : HasBody Try.prog 22 := ⟨_, _, Try.func22, rfl, by kernel_rfl⟩

-- laws_eqOrder
def sm23 : Sm := ⟨[.val true [I, I, (.sl 147 k1), (.sl 102 k2), I], .val true [I, I, (.sl 147 k1), (.sl 102 k2), I]], [(false, [(.bool, 0)])]⟩
def an23 : An := ⟨fun _ => none,
  fun _ => none,
  fun _ => none⟩
def s23 (n : Nat) : SmF := ⟨sm23, fun x => N.laws_eqOrder n x.1 x.2.1 x.2.2.1 x.2.2.2.1 x.2.2.2.2.1 x.2.2.2.2.2.1 x.2.2.2.2.2.2.1 x.2.2.2.2.2.2.2.1 x.2.2.2.2.2.2.2.2.1 x.2.2.2.2.2.2.2.2.2⟩
def env23 (n : Nat) : List (FuncId × SmF) := [(22, s22 n), (67, s67 n)]
theorem ev23 (n : Nat) (x : sm23.ins.D) : evFn (find tbl) (find (env23 n)) an23 n Try.f23 sm23 x = N.laws_eqOrder n x.1 x.2.1 x.2.2.1 x.2.2.2.1 x.2.2.2.2.1 x.2.2.2.2.2.1 x.2.2.2.2.2.2.1 x.2.2.2.2.2.2.2.1 x.2.2.2.2.2.2.2.2.1 x.2.2.2.2.2.2.2.2.2 := by kernel_rfl
theorem ok23 (n : Nat) : FnOk Try.prog TT 23 (s23 n) := fn_native (an := an23) (n := n) Try.func23 rfl (by kernel_rfl) tblOk (env_cons (ok22 n) body22 (env_cons (ok67 n) body67 env_nil)) follows (ev23 n)
theorem body23 : HasBody Try.prog 23 := ⟨_, _, Try.func23, rfl, by kernel_rfl⟩

-- laws_eqOrderS
def sm88 : Sm := ⟨[.val false [(.sl 39 k11)], .val false [(.sl 39 k11)]], [(false, [(.bool, 0)])]⟩
def an88 : An := ⟨fun _ => none,
  fun b => match b with
    | 0 => some ([.slot 5 I], true)
    | _ => none,
  fun _ => none⟩
def s88 (n : Nat) : SmF := ⟨sm88, fun x => N.laws_eqOrderS n x.1 x.2⟩
def env88 (n : Nat) : List (FuncId × SmF) := [(23, s23 n)]
theorem ev88 (n : Nat) (x : sm88.ins.D) : evFn (find tbl) (find (env88 n)) an88 n Try.f88 sm88 x = N.laws_eqOrderS n x.1 x.2 := by kernel_rfl
theorem ok88 (n : Nat) : FnOk Try.prog TT 88 (s88 n) := fn_native (an := an88) (n := n) Try.func88 rfl (by kernel_rfl) tblOk (env_cons (ok23 n) body23 env_nil) follows (ev88 n)
theorem body88 : HasBody Try.prog 88 := ⟨_, _, Try.func88, rfl, by kernel_rfl⟩

-- laws_eqBook
def sm40 : Sm := ⟨[.val true [I, (.sl 39 k11)], .val true [I, (.sl 39 k11)]], [(false, [(.bool, 0)])]⟩
def an40 : An := ⟨fun _ => none,
  fun _ => none,
  fun _ => none⟩
def s40 (n : Nat) : SmF := ⟨sm40, fun x => N.laws_eqBook n x.1 x.2.1 x.2.2.1 x.2.2.2⟩
def env40 (n : Nat) : List (FuncId × SmF) := [(88, s88 n)]
theorem ev40 (n : Nat) (x : sm40.ins.D) : evFn (find tbl) (find (env40 n)) an40 n Try.f40 sm40 x = N.laws_eqBook n x.1 x.2.1 x.2.2.1 x.2.2.2 := by kernel_rfl
theorem ok40 (n : Nat) : FnOk Try.prog TT 40 (s40 n) := fn_native (an := an40) (n := n) Try.func40 rfl (by kernel_rfl) tblOk (env_cons (ok88 n) body88 env_nil) follows (ev40 n)
theorem body40 : HasBody Try.prog 40 := ⟨_, _, Try.func40, rfl, by kernel_rfl⟩

-- laws_eqRobot
def sm131 : Sm := ⟨[.val true [I, I, I, .bool, I], .val true [I, I, I, .bool, I]], [(false, [(.bool, 0)])]⟩
def an131 : An := ⟨fun _ => none,
  fun _ => none,
  fun _ => none⟩
def s131 (n : Nat) : SmF := ⟨sm131, fun x => N.laws_eqRobot x.1 x.2.1 x.2.2.1 x.2.2.2.1 x.2.2.2.2.1 x.2.2.2.2.2.1 x.2.2.2.2.2.2.1 x.2.2.2.2.2.2.2.1 x.2.2.2.2.2.2.2.2.1 x.2.2.2.2.2.2.2.2.2⟩
def env131 (n : Nat) : List (FuncId × SmF) := []
theorem ev131 (n : Nat) (x : sm131.ins.D) : evFn (find tbl) (find (env131 n)) an131 n Try.f131 sm131 x = N.laws_eqRobot x.1 x.2.1 x.2.2.1 x.2.2.2.1 x.2.2.2.2.1 x.2.2.2.2.2.1 x.2.2.2.2.2.2.1 x.2.2.2.2.2.2.2.1 x.2.2.2.2.2.2.2.2.1 x.2.2.2.2.2.2.2.2.2 := by kernel_rfl
theorem ok131 (n : Nat) : FnOk Try.prog TT 131 (s131 n) := fn_native (an := an131) (n := n) Try.func131 rfl (by kernel_rfl) tblOk env_nil follows (ev131 n)
theorem body131 : HasBody Try.prog 131 := ⟨_, _, Try.func131, rfl, by kernel_rfl⟩

-- laws_eqRobotS
def sm106 : Sm := ⟨[.val false [(.sl 135 k6)], .val false [(.sl 135 k6)]], [(false, [(.bool, 0)])]⟩
def an106 : An := ⟨fun _ => none,
  fun b => match b with
    | 0 => some ([.slot 5 I], true)
    | _ => none,
  fun _ => none⟩
def s106 (n : Nat) : SmF := ⟨sm106, fun x => N.laws_eqRobotS n x.1 x.2⟩
def env106 (n : Nat) : List (FuncId × SmF) := [(131, s131 n)]
theorem ev106 (n : Nat) (x : sm106.ins.D) : evFn (find tbl) (find (env106 n)) an106 n Try.f106 sm106 x = N.laws_eqRobotS n x.1 x.2 := by kernel_rfl
theorem ok106 (n : Nat) : FnOk Try.prog TT 106 (s106 n) := fn_native (an := an106) (n := n) Try.func106 rfl (by kernel_rfl) tblOk (env_cons (ok131 n) body131 env_nil) follows (ev106 n)
theorem body106 : HasBody Try.prog 106 := ⟨_, _, Try.func106, rfl, by kernel_rfl⟩

-- laws_eqTask
def sm71 : Sm := ⟨[.val true [I, I, I, I], .val true [I, I, I, I]], [(false, [(.bool, 0)])]⟩
def an71 : An := ⟨fun _ => none,
  fun _ => none,
  fun _ => none⟩
def s71 (n : Nat) : SmF := ⟨sm71, fun x => N.laws_eqTask x.1 x.2.1 x.2.2.1 x.2.2.2.1 x.2.2.2.2.1 x.2.2.2.2.2.1 x.2.2.2.2.2.2.1 x.2.2.2.2.2.2.2⟩
def env71 (n : Nat) : List (FuncId × SmF) := []
theorem ev71 (n : Nat) (x : sm71.ins.D) : evFn (find tbl) (find (env71 n)) an71 n Try.f71 sm71 x = N.laws_eqTask x.1 x.2.1 x.2.2.1 x.2.2.2.1 x.2.2.2.2.1 x.2.2.2.2.2.1 x.2.2.2.2.2.2.1 x.2.2.2.2.2.2.2 := by kernel_rfl
theorem ok71 (n : Nat) : FnOk Try.prog TT 71 (s71 n) := fn_native (an := an71) (n := n) Try.func71 rfl (by kernel_rfl) tblOk env_nil follows (ev71 n)
theorem body71 : HasBody Try.prog 71 := ⟨_, _, Try.func71, rfl, by kernel_rfl⟩

-- laws_eqTaskS
def sm29 : Sm := ⟨[.val false [(.sl 110 k5)], .val false [(.sl 110 k5)]], [(false, [(.bool, 0)])]⟩
def an29 : An := ⟨fun _ => none,
  fun b => match b with
    | 0 => some ([.slot 5 I], true)
    | _ => none,
  fun _ => none⟩
def s29 (n : Nat) : SmF := ⟨sm29, fun x => N.laws_eqTaskS n x.1 x.2⟩
def env29 (n : Nat) : List (FuncId × SmF) := [(71, s71 n)]
theorem ev29 (n : Nat) (x : sm29.ins.D) : evFn (find tbl) (find (env29 n)) an29 n Try.f29 sm29 x = N.laws_eqTaskS n x.1 x.2 := by kernel_rfl
theorem ok29 (n : Nat) : FnOk Try.prog TT 29 (s29 n) := fn_native (an := an29) (n := n) Try.func29 rfl (by kernel_rfl) tblOk (env_cons (ok71 n) body71 env_nil) follows (ev29 n)
theorem body29 : HasBody Try.prog 29 := ⟨_, _, Try.func29, rfl, by kernel_rfl⟩

-- laws_eqDepot
def sm49 : Sm := ⟨[.val true [I, I, (.sl 3 (.one I)), (.sl 179 k8), I, (.sl 39 k11), (.sl 135 k6), (.sl 110 k5), (.sl 3 (.one I)), (.sl 3 (.one I)), I], .val true [I, I, (.sl 3 (.one I)), (.sl 179 k8), I, (.sl 39 k11), (.sl 135 k6), (.sl 110 k5), (.sl 3 (.one I)), (.sl 3 (.one I)), I]], [(false, [(.bool, 0)])]⟩
def an49 : An := ⟨fun _ => none,
  fun _ => none,
  fun _ => none⟩
def s49 (n : Nat) : SmF := ⟨sm49, fun x => N.laws_eqDepot n x.1 x.2.1 x.2.2.1 x.2.2.2.1 x.2.2.2.2.1 x.2.2.2.2.2.1 x.2.2.2.2.2.2.1 x.2.2.2.2.2.2.2.1 x.2.2.2.2.2.2.2.2.1 x.2.2.2.2.2.2.2.2.2.1 x.2.2.2.2.2.2.2.2.2.2.1 x.2.2.2.2.2.2.2.2.2.2.2.1 x.2.2.2.2.2.2.2.2.2.2.2.2.1 x.2.2.2.2.2.2.2.2.2.2.2.2.2.1 x.2.2.2.2.2.2.2.2.2.2.2.2.2.2.1 x.2.2.2.2.2.2.2.2.2.2.2.2.2.2.2.1 x.2.2.2.2.2.2.2.2.2.2.2.2.2.2.2.2.1 x.2.2.2.2.2.2.2.2.2.2.2.2.2.2.2.2.2.1 x.2.2.2.2.2.2.2.2.2.2.2.2.2.2.2.2.2.2.1 x.2.2.2.2.2.2.2.2.2.2.2.2.2.2.2.2.2.2.2.1 x.2.2.2.2.2.2.2.2.2.2.2.2.2.2.2.2.2.2.2.2.1 x.2.2.2.2.2.2.2.2.2.2.2.2.2.2.2.2.2.2.2.2.2⟩
def env49 (n : Nat) : List (FuncId × SmF) := [(29, s29 n), (40, s40 n), (56, s56 n), (104, s104 n), (105, s105 n), (106, s106 n)]
theorem ev49 (n : Nat) (x : sm49.ins.D) : evFn (find tbl) (find (env49 n)) an49 n Try.f49 sm49 x = N.laws_eqDepot n x.1 x.2.1 x.2.2.1 x.2.2.2.1 x.2.2.2.2.1 x.2.2.2.2.2.1 x.2.2.2.2.2.2.1 x.2.2.2.2.2.2.2.1 x.2.2.2.2.2.2.2.2.1 x.2.2.2.2.2.2.2.2.2.1 x.2.2.2.2.2.2.2.2.2.2.1 x.2.2.2.2.2.2.2.2.2.2.2.1 x.2.2.2.2.2.2.2.2.2.2.2.2.1 x.2.2.2.2.2.2.2.2.2.2.2.2.2.1 x.2.2.2.2.2.2.2.2.2.2.2.2.2.2.1 x.2.2.2.2.2.2.2.2.2.2.2.2.2.2.2.1 x.2.2.2.2.2.2.2.2.2.2.2.2.2.2.2.2.1 x.2.2.2.2.2.2.2.2.2.2.2.2.2.2.2.2.2.1 x.2.2.2.2.2.2.2.2.2.2.2.2.2.2.2.2.2.2.1 x.2.2.2.2.2.2.2.2.2.2.2.2.2.2.2.2.2.2.2.1 x.2.2.2.2.2.2.2.2.2.2.2.2.2.2.2.2.2.2.2.2.1 x.2.2.2.2.2.2.2.2.2.2.2.2.2.2.2.2.2.2.2.2.2 := by kernel_rfl
theorem ok49 (n : Nat) : FnOk Try.prog TT 49 (s49 n) := fn_native (an := an49) (n := n) Try.func49 rfl (by kernel_rfl) tblOk (env_cons (ok29 n) body29 (env_cons (ok40 n) body40 (env_cons (ok56 n) body56 (env_cons (ok104 n) body104 (env_cons (ok105 n) body105 (env_cons (ok106 n) body106 env_nil)))))) follows (ev49 n)
theorem body49 : HasBody Try.prog 49 := ⟨_, _, Try.func49, rfl, by kernel_rfl⟩

-- laws_FnExactPieces
def sm12 : Sm := ⟨[.val true [I, I, (.sl 3 (.one I)), (.sl 185 k9), I, (.sl 33 k10), (.sl 165 k6), (.sl 167 k5), (.sl 3 (.one I)), (.sl 3 (.one I)), I]], [(false, [(.bool, 0)])]⟩
def an12 : An := ⟨fun _ => none,
  fun _ => none,
  fun _ => none⟩
def s12 (n : Nat) : SmF := ⟨sm12, fun x => N.laws_FnExactPieces n x.1 x.2.1 x.2.2.1 x.2.2.2.1 x.2.2.2.2.1 x.2.2.2.2.2.1 x.2.2.2.2.2.2.1 x.2.2.2.2.2.2.2.1 x.2.2.2.2.2.2.2.2.1 x.2.2.2.2.2.2.2.2.2.1 x.2.2.2.2.2.2.2.2.2.2⟩
def env12 (n : Nat) : List (FuncId × SmF) := [(45, s45 n), (47, s47 n), (49, s49 n), (54, s54 n), (55, s55 n)]
theorem ev12 (n : Nat) (x : sm12.ins.D) : evFn (find tbl) (find (env12 n)) an12 n Try.f12 sm12 x = N.laws_FnExactPieces n x.1 x.2.1 x.2.2.1 x.2.2.2.1 x.2.2.2.2.1 x.2.2.2.2.2.1 x.2.2.2.2.2.2.1 x.2.2.2.2.2.2.2.1 x.2.2.2.2.2.2.2.2.1 x.2.2.2.2.2.2.2.2.2.1 x.2.2.2.2.2.2.2.2.2.2 := by kernel_rfl
theorem ok12 (n : Nat) : FnOk Try.prog TT 12 (s12 n) := fn_native (an := an12) (n := n) Try.func12 rfl (by kernel_rfl) tblOk (env_cons (ok45 n) body45 (env_cons (ok47 n) body47 (env_cons (ok49 n) body49 (env_cons (ok54 n) body54 (env_cons (ok55 n) body55 env_nil))))) follows (ev12 n)
theorem body12 : HasBody Try.prog 12 := ⟨_, _, Try.func12, rfl, by kernel_rfl⟩
end Go.Proofs.Ytcilnijdhaidjaa.Ev
