/- Tables of types; summaries of the functions. Conditions: none. -/
import Derived.Test.YtpanenmecamlnaaLib4
import Derived.Test.YtpanenmecamlnaaFnTasksNat
import Derived.Test.YtpanenmecamlnaaProg
import Derived.KernelRfl
namespace Go.Proofs.Ytpanenmecamlnaa.Ev
open Go Go.Ev Go.Proofs
set_option linter.unusedVariables false
set_option maxRecDepth 100000

abbrev I : L := .int .i64
/-- Package-level variables that are looked at. -/
abbrev TT : List (String × Array Value) := []
def k0 : Ls := (.cons .str (.one (.int .u64)))
def k1 : Ls := (.cons I (.one I))
def k2 : Ls := (.cons .str (.one (.int .u8)))
def k3 : Ls := (.cons I (.cons I (.one I)))
def k4 : Ls := (.cons I (.cons I (.cons .bool (.one (.int .u8)))))
def k5 : Ls := (.cons I (.cons I (.cons I (.one I))))
def k6 : Ls := (.cons I (.cons I (.cons I (.cons .bool (.one I)))))
def k7 : Ls := (.cons I (.cons I (.one (.sl 3 (.one I)))))
def k8 : Ls := (.cons I (.cons I (.one (.sl 127 k3))))
def k9 : Ls := (.cons (.sl 5 (.one (.int .u8))) (.cons I (.one I)))
def k10 : Ls := (.cons I (.cons I (.one (.sl 256 k3))))
def k11 : Ls := (.cons I (.cons I (.cons (.sl 69 k1) (.cons (.sl 35 k3) (.one I)))))
def k12 : Ls := (.cons I (.cons I (.cons (.sl 3 (.one I)) (.cons (.sl 55 k6) (.one (.sl 3 (.one I)))))))
def k13 : Ls := (.cons I (.one (.sl 27 k11)))
def k14 : Ls := (.cons I (.cons I (.cons (.sl 3 (.one I)) (.cons (.sl 55 k6) (.cons (.sl 36 (.one (.sl 3 (.one I)))) (.one (.sl 3 (.one I))))))))
def k15 : Ls := (.cons I (.cons I (.cons (.sl 3 (.one I)) (.cons (.sl 122 k8) (.cons I (.cons (.sl 27 k11) (.cons (.sl 55 k6) (.cons (.sl 33 k5) (.cons (.sl 3 (.one I)) (.cons (.sl 3 (.one I)) (.one I)))))))))))
def tbl : List (Nat × Ty) := [
  (3, ⟨false, (.one I), []⟩),
  (4, ⟨false, (.one .bool), []⟩),
  (5, ⟨false, (.one (.int .u8)), []⟩),
  (22, ⟨false, (.one (.sl 5 (.one (.int .u8)))), []⟩),
  (24, ⟨false, (.one (.sl 69 k1)), []⟩),
  (25, ⟨false, (.one (.sl 35 k3)), []⟩),
  (27, ⟨true, k11, [(0, 3), (1, 3), (2, 24), (3, 25), (4, 3)]⟩),
  (29, ⟨false, (.one (.sl 33 k5)), []⟩),
  (33, ⟨true, k5, [(0, 3), (1, 3), (2, 3), (3, 3)]⟩),
  (35, ⟨true, k3, [(0, 3), (1, 3), (2, 3)]⟩),
  (36, ⟨false, (.one (.sl 3 (.one I))), []⟩),
  (40, ⟨false, (.one (.sl 122 k8)), []⟩),
  (42, ⟨true, (.one (.sl 122 k8)), [(0, 40)]⟩),
  (45, ⟨false, (.one (.sl 27 k11)), []⟩),
  (47, ⟨true, k13, [(0, 3), (1, 45)]⟩),
  (69, ⟨true, k1, [(0, 3), (1, 3)]⟩),
  (86, ⟨false, (.one (.sl 4 (.one .bool))), []⟩),
  (120, ⟨false, (.one (.sl 127 k3)), []⟩),
  (122, ⟨true, k8, [(0, 3), (1, 3), (2, 120)]⟩),
  (127, ⟨true, k3, [(0, 3), (1, 3), (2, 3)]⟩),
  (179, ⟨true, k9, [(0, 22), (1, 3), (2, 3)]⟩)]
theorem tblOk : tbl.all (fun p => tyB Try.prog p.1 p.2) = true := by kernel_rfl
theorem follows : Try.prog.follows .mixedOrders = true := by kernel_rfl
-- laws_big
def sm10 : Sm := ⟨[.val false [(.sl 5 (.one (.int .u8)))]], [(false, [(.bool, 0)])]⟩
def an10 : An := ⟨fun _ => none,
  fun _ => none,
  fun _ => none⟩
def s10 (n : Nat) : SmF := ⟨sm10, fun x => N.laws_big x⟩
def env10 (n : Nat) : List (FuncId × SmF) := []
theorem ev10 (n : Nat) (x : sm10.ins.D) : evFn (find tbl) (find (env10 n)) an10 n Try.f10 sm10 x = N.laws_big x := by kernel_rfl
theorem ok10 (n : Nat) : FnOk Try.prog TT 10 (s10 n) := fn_native (an := an10) (n := n) Try.func10 rfl (by kernel_rfl) tblOk env_nil follows (ev10 n)
theorem body10 : HasBody Try.prog 10 := ⟨_, _, Try.func10, rfl, by kernel_rfl⟩

-- spec_l1New
def sm67 : Sm := ⟨[.val false [(.sl 5 (.one (.int .u8)))]], [(false, [((.sl 5 (.one (.int .u8))), 0), (I, 0), (I, 0)])]⟩
def an67 : An := ⟨fun _ => none,
  fun b => match b with
    | 0 => some ([.slot 3 I, .slot 4 I], false)
    | _ => none,
  fun _ => none⟩
def s67 (n : Nat) : SmF := ⟨sm67, fun x => N.spec_l1New n x⟩
def env67 (n : Nat) : List (FuncId × SmF) := []
theorem ev67 (n : Nat) (x : sm67.ins.D) : evFn (find tbl) (find (env67 n)) an67 n Try.f67 sm67 x = N.spec_l1New n x := by kernel_rfl
theorem ok67 (n : Nat) : FnOk Try.prog TT 67 (s67 n) := fn_native (an := an67) (n := n) Try.func67 rfl (by kernel_rfl) tblOk env_nil follows (ev67 n)
theorem body67 : HasBody Try.prog 67 := ⟨_, _, Try.func67, rfl, by kernel_rfl⟩

-- spec_l1Byte
def sm151 : Sm := ⟨[.box [((.sl 5 (.one (.int .u8))), 0), (I, 0), (I, 0)]], [(false, [(I, 0)])]⟩
def an151 : An := ⟨fun _ => none,
  fun _ => none,
  fun b => match b with
    | 12 => some ([.slot 3 I, .box 0 [some ((.sl 5 (.one (.int .u8))), 0), some (I, 0), some (I, 0)]], false)
    | _ => none⟩
def s151 (n : Nat) : SmF := ⟨sm151, fun x => N.spec_l1Byte x.1 x.2.1 x.2.2⟩
def env151 (n : Nat) : List (FuncId × SmF) := []
theorem ev151 (n : Nat) (x : sm151.ins.D) : evFn (find tbl) (find (env151 n)) an151 n Try.f151 sm151 x = N.spec_l1Byte x.1 x.2.1 x.2.2 := by kernel_rfl
theorem ok151 (n : Nat) : FnOk Try.prog TT 151 (s151 n) := fn_native (an := an151) (n := n) Try.func151 rfl (by kernel_rfl) tblOk env_nil follows (ev151 n)
theorem body151 : HasBody Try.prog 151 := ⟨_, _, Try.func151, rfl, by kernel_rfl⟩

-- spec_l1Below
def sm69 : Sm := ⟨[.box [((.sl 5 (.one (.int .u8))), 0), (I, 0), (I, 0)], .val false [I]], [(false, [(I, 0)])]⟩
def an69 : An := ⟨fun _ => none,
  fun _ => none,
  fun _ => none⟩
def s69 (n : Nat) : SmF := ⟨sm69, fun x => N.spec_l1Below x.1 x.2.1 x.2.2.1 x.2.2.2⟩
def env69 (n : Nat) : List (FuncId × SmF) := [(151, s151 n)]
theorem ev69 (n : Nat) (x : sm69.ins.D) : evFn (find tbl) (find (env69 n)) an69 n Try.f69 sm69 x = N.spec_l1Below x.1 x.2.1 x.2.2.1 x.2.2.2 := by kernel_rfl
theorem ok69 (n : Nat) : FnOk Try.prog TT 69 (s69 n) := fn_native (an := an69) (n := n) Try.func69 rfl (by kernel_rfl) tblOk (env_cons (ok151 n) body151 env_nil) follows (ev69 n)
theorem body69 : HasBody Try.prog 69 := ⟨_, _, Try.func69, rfl, by kernel_rfl⟩

-- spec_l1Once
def sm74 : Sm := ⟨[.box [((.sl 5 (.one (.int .u8))), 0), (I, 0), (I, 0)], .val false [I]], [(false, [(.bool, 0)])]⟩
def an74 : An := ⟨fun _ => none,
  fun _ => none,
  fun _ => none⟩
def s74 (n : Nat) : SmF := ⟨sm74, fun x => N.spec_l1Once x.1 x.2.1 x.2.2.1 x.2.2.2⟩
def env74 (n : Nat) : List (FuncId × SmF) := [(69, s69 n)]
theorem ev74 (n : Nat) (x : sm74.ins.D) : evFn (find tbl) (find (env74 n)) an74 n Try.f74 sm74 x = N.spec_l1Once x.1 x.2.1 x.2.2.1 x.2.2.2 := by kernel_rfl
theorem ok74 (n : Nat) : FnOk Try.prog TT 74 (s74 n) := fn_native (an := an74) (n := n) Try.func74 rfl (by kernel_rfl) tblOk (env_cons (ok69 n) body69 env_nil) follows (ev74 n)
theorem body74 : HasBody Try.prog 74 := ⟨_, _, Try.func74, rfl, by kernel_rfl⟩

-- spec_l1Int
def sm96 : Sm := ⟨[.box [((.sl 5 (.one (.int .u8))), 0), (I, 0), (I, 0)], .val false [(.sl 3 (.one I))]], [(false, [(I, 0)])]⟩
def an96 : An := ⟨fun _ => none,
  fun _ => none,
  fun _ => none⟩
def s96 (n : Nat) : SmF := ⟨sm96, fun x => N.spec_l1Int x.1 x.2.1 x.2.2.1 x.2.2.2⟩
def env96 (n : Nat) : List (FuncId × SmF) := [(69, s69 n)]
theorem ev96 (n : Nat) (x : sm96.ins.D) : evFn (find tbl) (find (env96 n)) an96 n Try.f96 sm96 x = N.spec_l1Int x.1 x.2.1 x.2.2.1 x.2.2.2 := by kernel_rfl
theorem ok96 (n : Nat) : FnOk Try.prog TT 96 (s96 n) := fn_native (an := an96) (n := n) Try.func96 rfl (by kernel_rfl) tblOk (env_cons (ok69 n) body69 env_nil) follows (ev96 n)
theorem body96 : HasBody Try.prog 96 := ⟨_, _, Try.func96, rfl, by kernel_rfl⟩

-- spec_l5Draw
def sm147 : Sm := ⟨[.box [((.sl 5 (.one (.int .u8))), 0), (I, 0), (I, 0)]], [(true, [((.sl 122 k8), 2)])]⟩
def an147 : An := ⟨fun _ => none,
  fun b => match b with
    | 0 => some ([.slot 4 I, .box 0 [some ((.sl 5 (.one (.int .u8))), 0), some (I, 0), some (I, 0)], .box 3 [some ((.sl 122 k8), 2)]], false)
    | 2 => some ([.slot 6 I, .box 0 [some ((.sl 5 (.one (.int .u8))), 0), some (I, 0), some (I, 0)], .box 5 [some (I, 0), some (I, 0), some ((.sl 127 k3), 2)]], false)
    | _ => none,
  fun b => match b with
    | 7 => some ([.box 0 [some ((.sl 5 (.one (.int .u8))), 0), some (I, 0), some (I, 0)], .box 3 [some ((.sl 122 k8), 2)]], false)
    | 13 => some ([.box 0 [some ((.sl 5 (.one (.int .u8))), 0), some (I, 0), some (I, 0)], .box 5 [some (I, 0), some (I, 0), some ((.sl 127 k3), 2)]], false)
    | _ => none⟩
def s147 (n : Nat) : SmF := ⟨sm147, fun x => N.spec_l5Draw n x.1 x.2.1 x.2.2⟩
def env147 (n : Nat) : List (FuncId × SmF) := [(69, s69 n), (74, s74 n), (96, s96 n)]
theorem ev147 (n : Nat) (x : sm147.ins.D) : evFn (find tbl) (find (env147 n)) an147 n Try.f147 sm147 x = N.spec_l5Draw n x.1 x.2.1 x.2.2 := by kernel_rfl
theorem ok147 (n : Nat) : FnOk Try.prog TT 147 (s147 n) := fn_native (an := an147) (n := n) Try.func147 rfl (by kernel_rfl) tblOk (env_cons (ok69 n) body69 (env_cons (ok74 n) body74 (env_cons (ok96 n) body96 env_nil))) follows (ev147 n)
theorem body147 : HasBody Try.prog 147 := ⟨_, _, Try.func147, rfl, by kernel_rfl⟩

-- spec_l11CopyOrder
def sm164 : Sm := ⟨[.val true [I, I, (.sl 69 k1), (.sl 35 k3), I]], [(true, [(I, 0), (I, 0), ((.sl 69 k1), 2), ((.sl 35 k3), 2), (I, 0)])]⟩
def an164 : An := ⟨fun _ => none,
  fun _ => none,
  fun _ => none⟩
def s164 (n : Nat) : SmF := ⟨sm164, fun x => N.spec_l11CopyOrder x.1 x.2.1 x.2.2.1 x.2.2.2.1 x.2.2.2.2⟩
def env164 (n : Nat) : List (FuncId × SmF) := []
theorem ev164 (n : Nat) (x : sm164.ins.D) : evFn (find tbl) (find (env164 n)) an164 n Try.f164 sm164 x = N.spec_l11CopyOrder x.1 x.2.1 x.2.2.1 x.2.2.2.1 x.2.2.2.2 := by kernel_rfl
theorem ok164 (n : Nat) : FnOk Try.prog TT 164 (s164 n) := fn_native (an := an164) (n := n) Try.func164 rfl (by kernel_rfl) tblOk env_nil follows (ev164 n)
theorem body164 : HasBody Try.prog 164 := ⟨_, _, Try.func164, rfl, by kernel_rfl⟩

-- spec_l11Copy
def sm103 : Sm := ⟨[.val true [I, (.sl 27 k11)]], [(true, [(I, 0), ((.sl 27 k11), 2)])]⟩
def an103 : An := ⟨fun _ => none,
  fun b => match b with
    | 0 => some ([.slot 4 I, .box 3 [some (I, 0), some ((.sl 27 k11), 2)]], false)
    | _ => none,
  fun _ => none⟩
def s103 (n : Nat) : SmF := ⟨sm103, fun x => N.spec_l11Copy n x.1 x.2⟩
def env103 (n : Nat) : List (FuncId × SmF) := [(164, s164 n)]
theorem ev103 (n : Nat) (x : sm103.ins.D) : evFn (find tbl) (find (env103 n)) an103 n Try.f103 sm103 x = N.spec_l11Copy n x.1 x.2 := by kernel_rfl
theorem ok103 (n : Nat) : FnOk Try.prog TT 103 (s103 n) := fn_native (an := an103) (n := n) Try.func103 rfl (by kernel_rfl) tblOk (env_cons (ok164 n) body164 env_nil) follows (ev103 n)
theorem body103 : HasBody Try.prog 103 := ⟨_, _, Try.func103, rfl, by kernel_rfl⟩

-- spec_l11Find
def sm188 : Sm := ⟨[.val true [I, (.sl 27 k11)], .val false [I]], [(false, [(I, 0)])]⟩
def an188 : An := ⟨fun _ => none,
  fun b => match b with
    | 0 => some ([.slot 5 I], true)
    | _ => none,
  fun _ => none⟩
def s188 (n : Nat) : SmF := ⟨sm188, fun x => N.spec_l11Find n x.1 x.2.1 x.2.2⟩
def env188 (n : Nat) : List (FuncId × SmF) := []
theorem ev188 (n : Nat) (x : sm188.ins.D) : evFn (find tbl) (find (env188 n)) an188 n Try.f188 sm188 x = N.spec_l11Find n x.1 x.2.1 x.2.2 := by kernel_rfl
theorem ok188 (n : Nat) : FnOk Try.prog TT 188 (s188 n) := fn_native (an := an188) (n := n) Try.func188 rfl (by kernel_rfl) tblOk env_nil follows (ev188 n)
theorem body188 : HasBody Try.prog 188 := ⟨_, _, Try.func188, rfl, by kernel_rfl⟩

-- spec_l1In
def sm84 : Sm := ⟨[.val false [I], .val false [I], .val false [I]], [(false, [(.bool, 0)])]⟩
def an84 : An := ⟨fun _ => none,
  fun _ => none,
  fun _ => none⟩
def s84 (n : Nat) : SmF := ⟨sm84, fun x => N.spec_l1In x.1 x.2.1 x.2.2⟩
def env84 (n : Nat) : List (FuncId × SmF) := []
theorem ev84 (n : Nat) (x : sm84.ins.D) : evFn (find tbl) (find (env84 n)) an84 n Try.f84 sm84 x = N.spec_l1In x.1 x.2.1 x.2.2 := by kernel_rfl
theorem ok84 (n : Nat) : FnOk Try.prog TT 84 (s84 n) := fn_native (an := an84) (n := n) Try.func84 rfl (by kernel_rfl) tblOk env_nil follows (ev84 n)
theorem body84 : HasBody Try.prog 84 := ⟨_, _, Try.func84, rfl, by kernel_rfl⟩

-- spec_l5Stacks
def sm139 : Sm := ⟨[.val false [(.sl 127 k3)]], [(false, [(.bool, 0)])]⟩
def an139 : An := ⟨fun _ => none,
  fun b => match b with
    | 0 => some ([.slot 3 I], true)
    | _ => none,
  fun _ => none⟩
def s139 (n : Nat) : SmF := ⟨sm139, fun x => N.spec_l5Stacks n x⟩
def env139 (n : Nat) : List (FuncId × SmF) := [(84, s84 n)]
theorem ev139 (n : Nat) (x : sm139.ins.D) : evFn (find tbl) (find (env139 n)) an139 n Try.f139 sm139 x = N.spec_l5Stacks n x := by kernel_rfl
theorem ok139 (n : Nat) : FnOk Try.prog TT 139 (s139 n) := fn_native (an := an139) (n := n) Try.func139 rfl (by kernel_rfl) tblOk (env_cons (ok84 n) body84 env_nil) follows (ev139 n)
theorem body139 : HasBody Try.prog 139 := ⟨_, _, Try.func139, rfl, by kernel_rfl⟩

-- spec_StockOk
def sm55 : Sm := ⟨[.val true [(.sl 122 k8)]], [(false, [(.bool, 0)])]⟩
def an55 : An := ⟨fun _ => none,
  fun b => match b with
    | 0 => some ([.slot 3 I], true)
    | 2 => some ([.slot 5 I], true)
    | _ => none,
  fun _ => none⟩
def s55 (n : Nat) : SmF := ⟨sm55, fun x => N.spec_StockOk n x⟩
def env55 (n : Nat) : List (FuncId × SmF) := [(84, s84 n), (139, s139 n)]
theorem ev55 (n : Nat) (x : sm55.ins.D) : evFn (find tbl) (find (env55 n)) an55 n Try.f55 sm55 x = N.spec_StockOk n x := by kernel_rfl
theorem ok55 (n : Nat) : FnOk Try.prog TT 55 (s55 n) := fn_native (an := an55) (n := n) Try.func55 rfl (by kernel_rfl) tblOk (env_cons (ok84 n) body84 (env_cons (ok139 n) body139 env_nil)) follows (ev55 n)
theorem body55 : HasBody Try.prog 55 := ⟨_, _, Try.func55, rfl, by kernel_rfl⟩

-- spec_ItemsOk
def sm166 : Sm := ⟨[.val false [(.sl 69 k1)]], [(false, [(.bool, 0)])]⟩
def an166 : An := ⟨fun _ => none,
  fun b => match b with
    | 0 => some ([.slot 3 I], true)
    | _ => none,
  fun _ => none⟩
def s166 (n : Nat) : SmF := ⟨sm166, fun x => N.spec_ItemsOk n x⟩
def env166 (n : Nat) : List (FuncId × SmF) := [(84, s84 n)]
theorem ev166 (n : Nat) (x : sm166.ins.D) : evFn (find tbl) (find (env166 n)) an166 n Try.f166 sm166 x = N.spec_ItemsOk n x := by kernel_rfl
theorem ok166 (n : Nat) : FnOk Try.prog TT 166 (s166 n) := fn_native (an := an166) (n := n) Try.func166 rfl (by kernel_rfl) tblOk (env_cons (ok84 n) body84 env_nil) follows (ev166 n)
theorem body166 : HasBody Try.prog 166 := ⟨_, _, Try.func166, rfl, by kernel_rfl⟩

-- spec_l11Sum
def sm193 : Sm := ⟨[.val false [(.sl 35 k3)], .val false [I]], [(false, [(I, 0)])]⟩
def an193 : An := ⟨fun _ => none,
  fun b => match b with
    | 0 => some ([.slot 5 I, .slot 6 I], false)
    | _ => none,
  fun b => match b with
    | 7 => some ([.slot 5 I], false)
    | _ => none⟩
def s193 (n : Nat) : SmF := ⟨sm193, fun x => N.spec_l11Sum n x.1 x.2⟩
def env193 (n : Nat) : List (FuncId × SmF) := []
theorem ev193 (n : Nat) (x : sm193.ins.D) : evFn (find tbl) (find (env193 n)) an193 n Try.f193 sm193 x = N.spec_l11Sum n x.1 x.2 := by kernel_rfl
theorem ok193 (n : Nat) : FnOk Try.prog TT 193 (s193 n) := fn_native (an := an193) (n := n) Try.func193 rfl (by kernel_rfl) tblOk env_nil follows (ev193 n)
theorem body193 : HasBody Try.prog 193 := ⟨_, _, Try.func193, rfl, by kernel_rfl⟩

-- spec_l11Order
def sm165 : Sm := ⟨[.val true [I, I, (.sl 69 k1), (.sl 35 k3), I]], [(false, [(.bool, 0)])]⟩
def an165 : An := ⟨fun _ => none,
  fun b => match b with
    | 0 => some ([.slot 3 I, .slot 4 I], false)
    | 2 => some ([.slot 3 I, .slot 5 I], true)
    | 4 => some ([.slot 7 I], true)
    | _ => none,
  fun _ => none⟩
def s165 (n : Nat) : SmF := ⟨sm165, fun x => N.spec_l11Order n x.1 x.2.1 x.2.2.1 x.2.2.2.1 x.2.2.2.2⟩
def env165 (n : Nat) : List (FuncId × SmF) := [(84, s84 n), (166, s166 n), (193, s193 n)]
theorem ev165 (n : Nat) (x : sm165.ins.D) : evFn (find tbl) (find (env165 n)) an165 n Try.f165 sm165 x = N.spec_l11Order n x.1 x.2.1 x.2.2.1 x.2.2.2.1 x.2.2.2.2 := by kernel_rfl
theorem ok165 (n : Nat) : FnOk Try.prog TT 165 (s165 n) := fn_native (an := an165) (n := n) Try.func165 rfl (by kernel_rfl) tblOk (env_cons (ok84 n) body84 (env_cons (ok166 n) body166 (env_cons (ok193 n) body193 env_nil))) follows (ev165 n)
theorem body165 : HasBody Try.prog 165 := ⟨_, _, Try.func165, rfl, by kernel_rfl⟩

-- spec_BookOk
def sm104 : Sm := ⟨[.val true [I, (.sl 27 k11)]], [(false, [(.bool, 0)])]⟩
def an104 : An := ⟨fun _ => none,
  fun b => match b with
    | 0 => some ([.slot 3 I], true)
    | _ => none,
  fun _ => none⟩
def s104 (n : Nat) : SmF := ⟨sm104, fun x => N.spec_BookOk n x.1 x.2⟩
def env104 (n : Nat) : List (FuncId × SmF) := [(84, s84 n), (165, s165 n)]
theorem ev104 (n : Nat) (x : sm104.ins.D) : evFn (find tbl) (find (env104 n)) an104 n Try.f104 sm104 x = N.spec_BookOk n x.1 x.2 := by kernel_rfl
theorem ok104 (n : Nat) : FnOk Try.prog TT 104 (s104 n) := fn_native (an := an104) (n := n) Try.func104 rfl (by kernel_rfl) tblOk (env_cons (ok84 n) body84 (env_cons (ok165 n) body165 env_nil)) follows (ev104 n)
theorem body104 : HasBody Try.prog 104 := ⟨_, _, Try.func104, rfl, by kernel_rfl⟩

-- spec_l5Copy
def sm83 : Sm := ⟨[.val true [(.sl 122 k8)]], [(true, [((.sl 122 k8), 2)])]⟩
def an83 : An := ⟨fun _ => none,
  fun b => match b with
    | 0 => some ([.slot 4 I, .box 3 [some ((.sl 122 k8), 2)]], false)
    | _ => none,
  fun _ => none⟩
def s83 (n : Nat) : SmF := ⟨sm83, fun x => N.spec_l5Copy n x⟩
def env83 (n : Nat) : List (FuncId × SmF) := []
theorem ev83 (n : Nat) (x : sm83.ins.D) : evFn (find tbl) (find (env83 n)) an83 n Try.f83 sm83 x = N.spec_l5Copy n x := by kernel_rfl
theorem ok83 (n : Nat) : FnOk Try.prog TT 83 (s83 n) := fn_native (an := an83) (n := n) Try.func83 rfl (by kernel_rfl) tblOk env_nil follows (ev83 n)
theorem body83 : HasBody Try.prog 83 := ⟨_, _, Try.func83, rfl, by kernel_rfl⟩

-- spec_l5Pod
def sm136 : Sm := ⟨[.val true [(.sl 122 k8)], .val false [I]], [(false, [(I, 0)])]⟩
def an136 : An := ⟨fun _ => none,
  fun b => match b with
    | 0 => some ([.slot 5 I], true)
    | _ => none,
  fun _ => none⟩
def s136 (n : Nat) : SmF := ⟨sm136, fun x => N.spec_l5Pod n x.1 x.2⟩
def env136 (n : Nat) : List (FuncId × SmF) := []
theorem ev136 (n : Nat) (x : sm136.ins.D) : evFn (find tbl) (find (env136 n)) an136 n Try.f136 sm136 x = N.spec_l5Pod n x.1 x.2 := by kernel_rfl
theorem ok136 (n : Nat) : FnOk Try.prog TT 136 (s136 n) := fn_native (an := an136) (n := n) Try.func136 rfl (by kernel_rfl) tblOk env_nil follows (ev136 n)
theorem body136 : HasBody Try.prog 136 := ⟨_, _, Try.func136, rfl, by kernel_rfl⟩

-- spec_l5Stack
def sm156 : Sm := ⟨[.val true [I, I, (.sl 127 k3)], .val false [I]], [(true, [(I, 0), (I, 0), (I, 0)])]⟩
def an156 : An := ⟨fun _ => none,
  fun b => match b with
    | 0 => some ([.slot 5 I, .box 4 [some (I, 0), some (I, 0), some (I, 0)]], true)
    | _ => none,
  fun _ => none⟩
def s156 (n : Nat) : SmF := ⟨sm156, fun x => N.spec_l5Stack n x.1 x.2.1 x.2.2.1 x.2.2.2⟩
def env156 (n : Nat) : List (FuncId × SmF) := []
theorem ev156 (n : Nat) (x : sm156.ins.D) : evFn (find tbl) (find (env156 n)) an156 n Try.f156 sm156 x = N.spec_l5Stack n x.1 x.2.1 x.2.2.1 x.2.2.2 := by kernel_rfl
theorem ok156 (n : Nat) : FnOk Try.prog TT 156 (s156 n) := fn_native (an := an156) (n := n) Try.func156 rfl (by kernel_rfl) tblOk env_nil follows (ev156 n)
theorem body156 : HasBody Try.prog 156 := ⟨_, _, Try.func156, rfl, by kernel_rfl⟩

-- spec_l5Call
def sm216 : Sm := ⟨[.val true [(.sl 122 k8)], .val false [I], .val false [I], .val false [I]], [(false, [(I, 0)]), (true, [(I, 0), (I, 0), (I, 0)]), (false, [(I, 0)])]⟩
def an216 : An := ⟨fun _ => none,
  fun _ => none,
  fun _ => none⟩
def s216 (n : Nat) : SmF := ⟨sm216, fun x => N.spec_l5Call n x.1 x.2.1 x.2.2.1 x.2.2.2⟩
def env216 (n : Nat) : List (FuncId × SmF) := [(55, s55 n), (84, s84 n), (136, s136 n), (156, s156 n)]
theorem ev216 (n : Nat) (x : sm216.ins.D) : evFn (find tbl) (find (env216 n)) an216 n Try.f216 sm216 x = N.spec_l5Call n x.1 x.2.1 x.2.2.1 x.2.2.2 := by kernel_rfl
theorem ok216 (n : Nat) : FnOk Try.prog TT 216 (s216 n) := fn_native (an := an216) (n := n) Try.func216 rfl (by kernel_rfl) tblOk (env_cons (ok55 n) body55 (env_cons (ok84 n) body84 (env_cons (ok136 n) body136 (env_cons (ok156 n) body156 env_nil)))) follows (ev216 n)
theorem body216 : HasBody Try.prog 216 := ⟨_, _, Try.func216, rfl, by kernel_rfl⟩

-- spec_l5With
def sm230 : Sm := ⟨[.val false [(.sl 127 k3)], .val true [I, I, I]], [(false, [((.sl 127 k3), 2)])]⟩
def an230 : An := ⟨fun _ => none,
  fun b => match b with
    | 0 => some ([.own 5 127 k3 2 false, .slot 6 .bool, .slot 7 I], false)
    | _ => none,
  fun b => match b with
    | 7 => some ([.own 5 127 k3 2 false, .slot 6 .bool], false)
    | 21 => some ([.own 5 127 k3 2 false, .slot 6 .bool], false)
    | 36 => some ([.own 5 127 k3 2 false], false)
    | _ => none⟩
def s230 (n : Nat) : SmF := ⟨sm230, fun x => N.spec_l5With n x.1 x.2.1 x.2.2.1 x.2.2.2⟩
def env230 (n : Nat) : List (FuncId × SmF) := []
theorem ev230 (n : Nat) (x : sm230.ins.D) : evFn (find tbl) (find (env230 n)) an230 n Try.f230 sm230 x = N.spec_l5With n x.1 x.2.1 x.2.2.1 x.2.2.2 := by kernel_rfl
theorem ok230 (n : Nat) : FnOk Try.prog TT 230 (s230 n) := fn_native (an := an230) (n := n) Try.func230 rfl (by kernel_rfl) tblOk env_nil follows (ev230 n)
theorem body230 : HasBody Try.prog 230 := ⟨_, _, Try.func230, rfl, by kernel_rfl⟩

-- spec_l5Put
def sm217 : Sm := ⟨[.val true [(.sl 122 k8)], .val false [I], .val true [I, I, I]], [(true, [((.sl 122 k8), 2)])]⟩
def an217 : An := ⟨fun _ => none,
  fun _ => none,
  fun _ => none⟩
def s217 (n : Nat) : SmF := ⟨sm217, fun x => N.spec_l5Put n x.1 x.2.1 x.2.2.1 x.2.2.2.1 x.2.2.2.2⟩
def env217 (n : Nat) : List (FuncId × SmF) := [(83, s83 n), (230, s230 n)]
theorem ev217 (n : Nat) (x : sm217.ins.D) : evFn (find tbl) (find (env217 n)) an217 n Try.f217 sm217 x = N.spec_l5Put n x.1 x.2.1 x.2.2.1 x.2.2.2.1 x.2.2.2.2 := by kernel_rfl
theorem ok217 (n : Nat) : FnOk Try.prog TT 217 (s217 n) := fn_native (an := an217) (n := n) Try.func217 rfl (by kernel_rfl) tblOk (env_cons (ok83 n) body83 (env_cons (ok230 n) body230 env_nil)) follows (ev217 n)
theorem body217 : HasBody Try.prog 217 := ⟨_, _, Try.func217, rfl, by kernel_rfl⟩

-- spec_Hold
def sm194 : Sm := ⟨[.val true [(.sl 122 k8)], .val false [I], .val false [I], .val false [I]], [(true, [((.sl 122 k8), 2)]), (false, [(I, 0)])]⟩
def an194 : An := ⟨fun _ => none,
  fun _ => none,
  fun _ => none⟩
def s194 (n : Nat) : SmF := ⟨sm194, fun x => N.spec_Hold n x.1 x.2.1 x.2.2.1 x.2.2.2⟩
def env194 (n : Nat) : List (FuncId × SmF) := [(83, s83 n), (216, s216 n), (217, s217 n)]
theorem ev194 (n : Nat) (x : sm194.ins.D) : evFn (find tbl) (find (env194 n)) an194 n Try.f194 sm194 x = N.spec_Hold n x.1 x.2.1 x.2.2.1 x.2.2.2 := by kernel_rfl
theorem ok194 (n : Nat) : FnOk Try.prog TT 194 (s194 n) := fn_native (an := an194) (n := n) Try.func194 rfl (by kernel_rfl) tblOk (env_cons (ok83 n) body83 (env_cons (ok216 n) body216 (env_cons (ok217 n) body217 env_nil))) follows (ev194 n)
theorem body194 : HasBody Try.prog 194 := ⟨_, _, Try.func194, rfl, by kernel_rfl⟩

-- spec_Release
def sm195 : Sm := ⟨[.val true [(.sl 122 k8)], .val false [I], .val false [I], .val false [I]], [(true, [((.sl 122 k8), 2)]), (false, [(I, 0)])]⟩
def an195 : An := ⟨fun _ => none,
  fun _ => none,
  fun _ => none⟩
def s195 (n : Nat) : SmF := ⟨sm195, fun x => N.spec_Release n x.1 x.2.1 x.2.2.1 x.2.2.2⟩
def env195 (n : Nat) : List (FuncId × SmF) := [(83, s83 n), (216, s216 n), (217, s217 n)]
theorem ev195 (n : Nat) (x : sm195.ins.D) : evFn (find tbl) (find (env195 n)) an195 n Try.f195 sm195 x = N.spec_Release n x.1 x.2.1 x.2.2.1 x.2.2.2 := by kernel_rfl
theorem ok195 (n : Nat) : FnOk Try.prog TT 195 (s195 n) := fn_native (an := an195) (n := n) Try.func195 rfl (by kernel_rfl) tblOk (env_cons (ok83 n) body83 (env_cons (ok216 n) body216 (env_cons (ok217 n) body217 env_nil))) follows (ev195 n)
theorem body195 : HasBody Try.prog 195 := ⟨_, _, Try.func195, rfl, by kernel_rfl⟩

-- spec_TakeOut
def sm196 : Sm := ⟨[.val true [(.sl 122 k8)], .val false [I], .val false [I], .val false [I]], [(true, [((.sl 122 k8), 2)]), (false, [(I, 0)])]⟩
def an196 : An := ⟨fun _ => none,
  fun _ => none,
  fun _ => none⟩
def s196 (n : Nat) : SmF := ⟨sm196, fun x => N.spec_TakeOut n x.1 x.2.1 x.2.2.1 x.2.2.2⟩
def env196 (n : Nat) : List (FuncId × SmF) := [(83, s83 n), (216, s216 n), (217, s217 n)]
theorem ev196 (n : Nat) (x : sm196.ins.D) : evFn (find tbl) (find (env196 n)) an196 n Try.f196 sm196 x = N.spec_TakeOut n x.1 x.2.1 x.2.2.1 x.2.2.2 := by kernel_rfl
theorem ok196 (n : Nat) : FnOk Try.prog TT 196 (s196 n) := fn_native (an := an196) (n := n) Try.func196 rfl (by kernel_rfl) tblOk (env_cons (ok83 n) body83 (env_cons (ok216 n) body216 (env_cons (ok217 n) body217 env_nil))) follows (ev196 n)
theorem body196 : HasBody Try.prog 196 := ⟨_, _, Try.func196, rfl, by kernel_rfl⟩

-- spec_l6Each
def sm168 : Sm := ⟨[.val true [(.sl 122 k8)], .val false [(.sl 35 k3)], .val false [I]], [(true, [((.sl 122 k8), 2)]), (false, [(.bool, 0)])]⟩
def an168 : An := ⟨fun _ => none,
  fun b => match b with
    | 0 => some ([.slot 9 I, .box 6 [some ((.sl 122 k8), 2)], .box 8 [some ((.sl 122 k8), 2)]], true)
    | _ => none,
  fun b => match b with
    | 24 => some ([.slot 11 I, .box 8 [some ((.sl 122 k8), 2)]], false)
    | _ => none⟩
def s168 (n : Nat) : SmF := ⟨sm168, fun x => N.spec_l6Each n x.1 x.2.1 x.2.2⟩
def env168 (n : Nat) : List (FuncId × SmF) := [(83, s83 n), (194, s194 n), (195, s195 n), (196, s196 n)]
theorem ev168 (n : Nat) (x : sm168.ins.D) : evFn (find tbl) (find (env168 n)) an168 n Try.f168 sm168 x = N.spec_l6Each n x.1 x.2.1 x.2.2 := by kernel_rfl
theorem ok168 (n : Nat) : FnOk Try.prog TT 168 (s168 n) := fn_native (an := an168) (n := n) Try.func168 rfl (by kernel_rfl) tblOk (env_cons (ok83 n) body83 (env_cons (ok194 n) body194 (env_cons (ok195 n) body195 (env_cons (ok196 n) body196 env_nil)))) follows (ev168 n)
theorem body168 : HasBody Try.prog 168 := ⟨_, _, Try.func168, rfl, by kernel_rfl⟩

-- spec_ReleaseAll
def sm189 : Sm := ⟨[.val true [(.sl 122 k8)], .val false [(.sl 35 k3)]], [(true, [((.sl 122 k8), 2)]), (false, [(.bool, 0)])]⟩
def an189 : An := ⟨fun _ => none,
  fun _ => none,
  fun _ => none⟩
def s189 (n : Nat) : SmF := ⟨sm189, fun x => N.spec_ReleaseAll n x.1 x.2⟩
def env189 (n : Nat) : List (FuncId × SmF) := [(168, s168 n)]
theorem ev189 (n : Nat) (x : sm189.ins.D) : evFn (find tbl) (find (env189 n)) an189 n Try.f189 sm189 x = N.spec_ReleaseAll n x.1 x.2 := by kernel_rfl
theorem ok189 (n : Nat) : FnOk Try.prog TT 189 (s189 n) := fn_native (an := an189) (n := n) Try.func189 rfl (by kernel_rfl) tblOk (env_cons (ok168 n) body168 env_nil) follows (ev189 n)
theorem body189 : HasBody Try.prog 189 := ⟨_, _, Try.func189, rfl, by kernel_rfl⟩

-- spec_Withdraw
def sm148 : Sm := ⟨[.val true [(.sl 122 k8)], .val true [I, (.sl 27 k11)], .val false [I]], [(true, [((.sl 122 k8), 2)]), (true, [(I, 0), ((.sl 27 k11), 2)]), (false, [(.bool, 0)])]⟩
def an148 : An := ⟨fun _ => none,
  fun _ => none,
  fun _ => none⟩
def s148 (n : Nat) : SmF := ⟨sm148, fun x => N.spec_Withdraw n x.1 x.2.1 x.2.2.1 x.2.2.2⟩
def env148 (n : Nat) : List (FuncId × SmF) := [(55, s55 n), (83, s83 n), (103, s103 n), (104, s104 n), (188, s188 n), (189, s189 n)]
theorem ev148 (n : Nat) (x : sm148.ins.D) : evFn (find tbl) (find (env148 n)) an148 n Try.f148 sm148 x = N.spec_Withdraw n x.1 x.2.1 x.2.2.1 x.2.2.2 := by kernel_rfl
theorem ok148 (n : Nat) : FnOk Try.prog TT 148 (s148 n) := fn_native (an := an148) (n := n) Try.func148 rfl (by kernel_rfl) tblOk (env_cons (ok55 n) body55 (env_cons (ok83 n) body83 (env_cons (ok103 n) body103 (env_cons (ok104 n) body104 (env_cons (ok188 n) body188 (env_cons (ok189 n) body189 env_nil)))))) follows (ev148 n)
theorem body148 : HasBody Try.prog 148 := ⟨_, _, Try.func148, rfl, by kernel_rfl⟩

-- spec_Finish
def sm149 : Sm := ⟨[.val true [I, (.sl 27 k11)], .val false [I]], [(true, [(I, 0), ((.sl 27 k11), 2)]), (false, [(.bool, 0)])]⟩
def an149 : An := ⟨fun _ => none,
  fun _ => none,
  fun _ => none⟩
def s149 (n : Nat) : SmF := ⟨sm149, fun x => N.spec_Finish n x.1 x.2.1 x.2.2⟩
def env149 (n : Nat) : List (FuncId × SmF) := [(103, s103 n), (104, s104 n), (188, s188 n)]
theorem ev149 (n : Nat) (x : sm149.ins.D) : evFn (find tbl) (find (env149 n)) an149 n Try.f149 sm149 x = N.spec_Finish n x.1 x.2.1 x.2.2 := by kernel_rfl
theorem ok149 (n : Nat) : FnOk Try.prog TT 149 (s149 n) := fn_native (an := an149) (n := n) Try.func149 rfl (by kernel_rfl) tblOk (env_cons (ok103 n) body103 (env_cons (ok104 n) body104 (env_cons (ok188 n) body188 env_nil))) follows (ev149 n)
theorem body149 : HasBody Try.prog 149 := ⟨_, _, Try.func149, rfl, by kernel_rfl⟩

-- spec_l6Items
def sm150 : Sm := ⟨[.box [((.sl 5 (.one (.int .u8))), 0), (I, 0), (I, 0)]], [(false, [((.sl 69 k1), 2)])]⟩
def an150 : An := ⟨fun _ => none,
  fun b => match b with
    | 0 => some ([.own 3 69 k1 2 false, .slot 4 I, .box 0 [some ((.sl 5 (.one (.int .u8))), 0), some (I, 0), some (I, 0)]], false)
    | _ => none,
  fun b => match b with
    | 7 => some ([.own 3 69 k1 2 false, .box 0 [some ((.sl 5 (.one (.int .u8))), 0), some (I, 0), some (I, 0)]], false)
    | _ => none⟩
def s150 (n : Nat) : SmF := ⟨sm150, fun x => N.spec_l6Items n x.1 x.2.1 x.2.2⟩
def env150 (n : Nat) : List (FuncId × SmF) := [(74, s74 n), (96, s96 n)]
theorem ev150 (n : Nat) (x : sm150.ins.D) : evFn (find tbl) (find (env150 n)) an150 n Try.f150 sm150 x = N.spec_l6Items n x.1 x.2.1 x.2.2 := by kernel_rfl
theorem ok150 (n : Nat) : FnOk Try.prog TT 150 (s150 n) := fn_native (an := an150) (n := n) Try.func150 rfl (by kernel_rfl) tblOk (env_cons (ok74 n) body74 (env_cons (ok96 n) body96 env_nil)) follows (ev150 n)
theorem body150 : HasBody Try.prog 150 := ⟨_, _, Try.func150, rfl, by kernel_rfl⟩

-- spec_l6Could
def sm167 : Sm := ⟨[.val true [I, I, (.sl 127 k3)], .val false [(.sl 69 k1)]], [(false, [((.sl 35 k3), 2)]), (false, [(I, 0)])]⟩
def an167 : An := ⟨fun _ => none,
  fun b => match b with
    | 0 => some ([.own 6 35 k3 2 false, .slot 7 I, .slot 8 I], false)
    | _ => none,
  fun b => match b with
    | 7 => some ([.own 6 35 k3 2 false, .slot 7 I], false)
    | 27 => some ([.slot 10 I], false)
    | _ => none⟩
def s167 (n : Nat) : SmF := ⟨sm167, fun x => N.spec_l6Could n x.1 x.2.1 x.2.2.1 x.2.2.2⟩
def env167 (n : Nat) : List (FuncId × SmF) := [(156, s156 n)]
theorem ev167 (n : Nat) (x : sm167.ins.D) : evFn (find tbl) (find (env167 n)) an167 n Try.f167 sm167 x = N.spec_l6Could n x.1 x.2.1 x.2.2.1 x.2.2.2 := by kernel_rfl
theorem ok167 (n : Nat) : FnOk Try.prog TT 167 (s167 n) := fn_native (an := an167) (n := n) Try.func167 rfl (by kernel_rfl) tblOk (env_cons (ok156 n) body156 env_nil) follows (ev167 n)
theorem body167 : HasBody Try.prog 167 := ⟨_, _, Try.func167, rfl, by kernel_rfl⟩

-- spec_Picks
def sm105 : Sm := ⟨[.val true [(.sl 122 k8)], .val false [(.sl 69 k1)]], [(false, [((.sl 35 k3), 2)]), (false, [(.bool, 0)])]⟩
def an105 : An := ⟨fun _ => none,
  fun b => match b with
    | 0 => some ([.own 4 35 k3 2 false, .slot 5 .bool, .own 9 35 k3 2 false, .own 6 35 k3 2 false, .own 7 69 k1 2 false, .own 8 4 (.one .bool) 2 false], true)
    | 2 => some ([.slot 10 I, .slot 11 I], false)
    | 4 => some ([.slot 12 I, .slot 13 I, .slot 14 I], false)
    | 6 => some ([.slot 19 I, .own 7 69 k1 2 false], false)
    | 8 => some ([.slot 20 I, .own 7 69 k1 2 false], false)
    | _ => none,
  fun b => match b with
    | 19 => some ([.slot 12 I, .slot 13 I], false)
    | 31 => some ([.own 7 69 k1 2 false], false)
    | _ => none⟩
def s105 (n : Nat) : SmF := ⟨sm105, fun x => N.spec_Picks n x.1 x.2⟩
def env105 (n : Nat) : List (FuncId × SmF) := [(55, s55 n), (166, s166 n), (167, s167 n)]
theorem ev105 (n : Nat) (x : sm105.ins.D) : evFn (find tbl) (find (env105 n)) an105 n Try.f105 sm105 x = N.spec_Picks n x.1 x.2 := by kernel_rfl
theorem ok105 (n : Nat) : FnOk Try.prog TT 105 (s105 n) := fn_native (an := an105) (n := n) Try.func105 rfl (by kernel_rfl) tblOk (env_cons (ok55 n) body55 (env_cons (ok166 n) body166 (env_cons (ok167 n) body167 env_nil))) follows (ev105 n)
theorem body105 : HasBody Try.prog 105 := ⟨_, _, Try.func105, rfl, by kernel_rfl⟩

-- spec_HoldAll
def sm106 : Sm := ⟨[.val true [(.sl 122 k8)], .val false [(.sl 35 k3)]], [(true, [((.sl 122 k8), 2)]), (false, [(.bool, 0)])]⟩
def an106 : An := ⟨fun _ => none,
  fun _ => none,
  fun _ => none⟩
def s106 (n : Nat) : SmF := ⟨sm106, fun x => N.spec_HoldAll n x.1 x.2⟩
def env106 (n : Nat) : List (FuncId × SmF) := [(168, s168 n)]
theorem ev106 (n : Nat) (x : sm106.ins.D) : evFn (find tbl) (find (env106 n)) an106 n Try.f106 sm106 x = N.spec_HoldAll n x.1 x.2 := by kernel_rfl
theorem ok106 (n : Nat) : FnOk Try.prog TT 106 (s106 n) := fn_native (an := an106) (n := n) Try.func106 rfl (by kernel_rfl) tblOk (env_cons (ok168 n) body168 env_nil) follows (ev106 n)
theorem body106 : HasBody Try.prog 106 := ⟨_, _, Try.func106, rfl, by kernel_rfl⟩

-- spec_Accept
def sm25 : Sm := ⟨[.val true [(.sl 122 k8)], .val true [I, (.sl 27 k11)], .val false [I], .val false [(.sl 69 k1)]], [(true, [((.sl 122 k8), 2)]), (true, [(I, 0), ((.sl 27 k11), 2)]), (false, [(I, 0)])]⟩
def an25 : An := ⟨fun _ => none,
  fun _ => none,
  fun _ => none⟩
def s25 (n : Nat) : SmF := ⟨sm25, fun x => N.spec_Accept n x.1 x.2.1 x.2.2.1 x.2.2.2.1 x.2.2.2.2⟩
def env25 (n : Nat) : List (FuncId × SmF) := [(55, s55 n), (83, s83 n), (84, s84 n), (103, s103 n), (104, s104 n), (105, s105 n), (106, s106 n)]
theorem ev25 (n : Nat) (x : sm25.ins.D) : evFn (find tbl) (find (env25 n)) an25 n Try.f25 sm25 x = N.spec_Accept n x.1 x.2.1 x.2.2.1 x.2.2.2.1 x.2.2.2.2 := by kernel_rfl
theorem ok25 (n : Nat) : FnOk Try.prog TT 25 (s25 n) := fn_native (an := an25) (n := n) Try.func25 rfl (by kernel_rfl) tblOk (env_cons (ok55 n) body55 (env_cons (ok83 n) body83 (env_cons (ok84 n) body84 (env_cons (ok103 n) body103 (env_cons (ok104 n) body104 (env_cons (ok105 n) body105 (env_cons (ok106 n) body106 env_nil))))))) follows (ev25 n)
theorem body25 : HasBody Try.prog 25 := ⟨_, _, Try.func25, rfl, by kernel_rfl⟩

-- spec_l11Draw
def sm68 : Sm := ⟨[.box [((.sl 5 (.one (.int .u8))), 0), (I, 0), (I, 0)], .val false [I]], [(true, [((.sl 122 k8), 2)]), (true, [(I, 0), ((.sl 27 k11), 2)])]⟩
def an68 : An := ⟨fun _ => none,
  fun b => match b with
    | 0 => some ([.slot 8 I, .box 0 [some ((.sl 5 (.one (.int .u8))), 0), some (I, 0), some (I, 0)], .box 6 [some ((.sl 122 k8), 2)], .box 7 [some (I, 0), some ((.sl 27 k11), 2)]], false)
    | _ => none,
  fun b => match b with
    | 7 => some ([.box 0 [some ((.sl 5 (.one (.int .u8))), 0), some (I, 0), some (I, 0)], .box 6 [some ((.sl 122 k8), 2)], .box 7 [some (I, 0), some ((.sl 27 k11), 2)]], false)
    | _ => none⟩
def s68 (n : Nat) : SmF := ⟨sm68, fun x => N.spec_l11Draw n x.1 x.2.1 x.2.2.1 x.2.2.2⟩
def env68 (n : Nat) : List (FuncId × SmF) := [(25, s25 n), (69, s69 n), (147, s147 n), (148, s148 n), (149, s149 n), (150, s150 n)]
theorem ev68 (n : Nat) (x : sm68.ins.D) : evFn (find tbl) (find (env68 n)) an68 n Try.f68 sm68 x = N.spec_l11Draw n x.1 x.2.1 x.2.2.1 x.2.2.2 := by kernel_rfl
theorem ok68 (n : Nat) : FnOk Try.prog TT 68 (s68 n) := fn_native (an := an68) (n := n) Try.func68 rfl (by kernel_rfl) tblOk (env_cons (ok25 n) body25 (env_cons (ok69 n) body69 (env_cons (ok147 n) body147 (env_cons (ok148 n) body148 (env_cons (ok149 n) body149 (env_cons (ok150 n) body150 env_nil)))))) follows (ev68 n)
theorem body68 : HasBody Try.prog 68 := ⟨_, _, Try.func68, rfl, by kernel_rfl⟩

-- spec_DrawTasksOf
def sm11 : Sm := ⟨[.val false [(.sl 5 (.one (.int .u8)))]], [(true, [(I, 0), (I, 0), ((.sl 69 k1), 0), ((.sl 35 k3), 0), (I, 0)])]⟩
def an11 : An := ⟨fun _ => none,
  fun _ => none,
  fun _ => none⟩
def s11 (n : Nat) : SmF := ⟨sm11, fun x => N.spec_DrawTasksOf n x⟩
def env11 (n : Nat) : List (FuncId × SmF) := [(67, s67 n), (68, s68 n), (69, s69 n)]
theorem ev11 (n : Nat) (x : sm11.ins.D) : evFn (find tbl) (find (env11 n)) an11 n Try.f11 sm11 x = N.spec_DrawTasksOf n x := by kernel_rfl
theorem ok11 (n : Nat) : FnOk Try.prog TT 11 (s11 n) := fn_native (an := an11) (n := n) Try.func11 rfl (by kernel_rfl) tblOk (env_cons (ok67 n) body67 (env_cons (ok68 n) body68 (env_cons (ok69 n) body69 env_nil))) follows (ev11 n)
theorem body11 : HasBody Try.prog 11 := ⟨_, _, Try.func11, rfl, by kernel_rfl⟩

-- impl_hasInt
def sm70 : Sm := ⟨[.val false [(.sl 3 (.one I))], .val false [I]], [(false, [(.bool, 0)])]⟩
def an70 : An := ⟨fun _ => none,
  fun b => match b with
    | 0 => some ([.slot 9 I], true)
    | _ => none,
  fun _ => none⟩
def s70 (n : Nat) : SmF := ⟨sm70, fun x => N.impl_hasInt n x.1 x.2⟩
def env70 (n : Nat) : List (FuncId × SmF) := []
theorem ev70 (n : Nat) (x : sm70.ins.D) : evFn (find tbl) (find (env70 n)) an70 n Try.f70 sm70 x = N.impl_hasInt n x.1 x.2 := by kernel_rfl
theorem ok70 (n : Nat) : FnOk Try.prog TT 70 (s70 n) := fn_native (an := an70) (n := n) Try.func70 rfl (by kernel_rfl) tblOk env_nil follows (ev70 n)
theorem body70 : HasBody Try.prog 70 := ⟨_, _, Try.func70, rfl, by kernel_rfl⟩

-- impl_PodsOf
def sm14 : Sm := ⟨[.val false [(.sl 35 k3)]], [(false, [((.sl 3 (.one I)), 2)])]⟩
def an14 : An := ⟨fun _ => none,
  fun b => match b with
    | 0 => some ([.own 3 3 (.one I) 2 false, .slot 8 I], false)
    | _ => none,
  fun b => match b with
    | 7 => some ([.own 3 3 (.one I) 2 false], false)
    | _ => none⟩
def s14 (n : Nat) : SmF := ⟨sm14, fun x => N.impl_PodsOf n x⟩
def env14 (n : Nat) : List (FuncId × SmF) := [(70, s70 n)]
theorem ev14 (n : Nat) (x : sm14.ins.D) : evFn (find tbl) (find (env14 n)) an14 n Try.f14 sm14 x = N.impl_PodsOf n x := by kernel_rfl
theorem ok14 (n : Nat) : FnOk Try.prog TT 14 (s14 n) := fn_native (an := an14) (n := n) Try.func14 rfl (by kernel_rfl) tblOk (env_cons (ok70 n) body70 env_nil) follows (ev14 n)
theorem body14 : HasBody Try.prog 14 := ⟨_, _, Try.func14, rfl, by kernel_rfl⟩

-- impl_TasksOf
def sm12 : Sm := ⟨[.val true [I, I, (.sl 69 k1), (.sl 35 k3), I]], [(false, [((.sl 33 k5), 2)])]⟩
def an12 : An := ⟨fun _ => none,
  fun b => match b with
    | 0 => some ([.own 3 33 k5 2 false, .slot 10 I], false)
    | _ => none,
  fun _ => none⟩
def s12 (n : Nat) : SmF := ⟨sm12, fun x => N.impl_TasksOf n x.1 x.2.1 x.2.2.1 x.2.2.2.1 x.2.2.2.2⟩
def env12 (n : Nat) : List (FuncId × SmF) := [(14, s14 n)]
theorem ev12 (n : Nat) (x : sm12.ins.D) : evFn (find tbl) (find (env12 n)) an12 n Try.f12 sm12 x = N.impl_TasksOf n x.1 x.2.1 x.2.2.1 x.2.2.2.1 x.2.2.2.2 := by kernel_rfl
theorem ok12 (n : Nat) : FnOk Try.prog TT 12 (s12 n) := fn_native (an := an12) (n := n) Try.func12 rfl (by kernel_rfl) tblOk (env_cons (ok14 n) body14 env_nil) follows (ev12 n)
theorem body12 : HasBody Try.prog 12 := ⟨_, _, Try.func12, rfl, by kernel_rfl⟩

-- impl_PicksOf
def sm13 : Sm := ⟨[.val true [I, I, (.sl 69 k1), (.sl 35 k3), I], .val false [I]], [(false, [((.sl 35 k3), 2)])]⟩
def an13 : An := ⟨fun _ => none,
  fun b => match b with
    | 0 => some ([.own 5 35 k3 2 false, .slot 11 I], false)
    | _ => none,
  fun b => match b with
    | 7 => some ([.own 5 35 k3 2 false], false)
    | _ => none⟩
def s13 (n : Nat) : SmF := ⟨sm13, fun x => N.impl_PicksOf n x.1 x.2.1 x.2.2.1 x.2.2.2.1 x.2.2.2.2.1 x.2.2.2.2.2⟩
def env13 (n : Nat) : List (FuncId × SmF) := []
theorem ev13 (n : Nat) (x : sm13.ins.D) : evFn (find tbl) (find (env13 n)) an13 n Try.f13 sm13 x = N.impl_PicksOf n x.1 x.2.1 x.2.2.1 x.2.2.2.1 x.2.2.2.2.1 x.2.2.2.2.2 := by kernel_rfl
theorem ok13 (n : Nat) : FnOk Try.prog TT 13 (s13 n) := fn_native (an := an13) (n := n) Try.func13 rfl (by kernel_rfl) tblOk env_nil follows (ev13 n)
theorem body13 : HasBody Try.prog 13 := ⟨_, _, Try.func13, rfl, by kernel_rfl⟩

-- laws_FnTasks
def sm3 : Sm := ⟨[.val false [(.sl 5 (.one (.int .u8)))]], [(false, [(.bool, 0)])]⟩
def an3 : An := ⟨fun _ => none,
  fun b => match b with
    | 0 => some ([.slot 5 I, .slot 6 I], true)
    | 2 => some ([.slot 8 I], true)
    | _ => none,
  fun _ => none⟩
def s3 (n : Nat) : SmF := ⟨sm3, fun x => N.laws_FnTasks n x⟩
def env3 (n : Nat) : List (FuncId × SmF) := [(10, s10 n), (11, s11 n), (12, s12 n), (13, s13 n), (14, s14 n)]
theorem ev3 (n : Nat) (x : sm3.ins.D) : evFn (find tbl) (find (env3 n)) an3 n Try.f3 sm3 x = N.laws_FnTasks n x := by kernel_rfl
theorem ok3 (n : Nat) : FnOk Try.prog TT 3 (s3 n) := fn_native (an := an3) (n := n) Try.func3 rfl (by kernel_rfl) tblOk (env_cons (ok10 n) body10 (env_cons (ok11 n) body11 (env_cons (ok12 n) body12 (env_cons (ok13 n) body13 (env_cons (ok14 n) body14 env_nil))))) follows (ev3 n)
theorem body3 : HasBody Try.prog 3 := ⟨_, _, Try.func3, rfl, by kernel_rfl⟩
end Go.Proofs.Ytpanenmecamlnaa.Ev
