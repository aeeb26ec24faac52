/- Tables of types; summaries of the functions. Conditions: none. -/
import Derived.Test.YtcjameniijmodaaLib3
import Derived.Test.YtcjameniijmodaaFnExactTasksOkNat
import Derived.Test.YtcjameniijmodaaProg
import Derived.KernelRfl
namespace Go.Proofs.Ytcjameniijmodaa.Ev
open Go Go.Ev Go.Proofs
set_option linter.unusedVariables false
set_option maxRecDepth 100000

abbrev I : L := .int .i64
def k0 : Ls := (.cons .str (.one (.int .u64)))
def k1 : Ls := (.cons I (.one I))
def k2 : Ls := (.cons .bool (.cons I (.one I)))
def k3 : Ls := (.cons I (.cons I (.one I)))
def k4 : Ls := (.cons I (.cons I (.cons .bool (.one (.int .u8)))))
def k5 : Ls := (.cons I (.cons I (.cons I (.one I))))
def k6 : Ls := (.cons I (.cons I (.cons (.sl 107 k1) (.cons (.sl 112 k3) (.one I)))))
def k7 : Ls := (.cons I (.cons I (.cons (.sl 105 k1) (.cons (.sl 98 k3) (.one I)))))
def k8 : Ls := (.cons I (.cons I (.cons (.sl 107 k1) (.cons I (.cons I (.cons I (.one I)))))))
def k9 : Ls := (.cons I (.cons I (.cons (.sl 105 k1) (.cons I (.cons I (.cons I (.one I)))))))
def k10 : Ls := (.cons (.sl 3 (.one I)) (.cons I (.cons .bool (.cons I (.cons I (.cons I (.cons (.sl 3 (.one I)) (.one (.sl 92 k2)))))))))
def k11 : Ls := (.cons (.sl 3 (.one I)) (.cons I (.cons .bool (.cons I (.cons I (.cons I (.cons (.sl 3 (.one I)) (.one (.sl 110 k2)))))))))
def tbl : List (Nat × Ty) := [
  (3, ⟨false, (.one I), []⟩),
  (4, ⟨false, (.one .bool), []⟩),
  (24, ⟨false, (.one (.sl 78 k5)), []⟩),
  (27, ⟨false, (.one (.sl 75 k5)), []⟩),
  (75, ⟨true, k5, [(0, 3), (1, 3), (2, 3), (3, 3)]⟩),
  (78, ⟨true, k5, [(0, 3), (1, 3), (2, 3), (3, 3)]⟩)]
theorem tblOk : tbl.all (fun p => tyB Try.prog p.1 p.2) = true := by kernel_rfl
theorem follows : Try.prog.follows .mixedOrders = true := by kernel_rfl
-- laws_szTaskS
def sm12 : Sm := ⟨[.val false [(.sl 78 k5)], .val false [I]], [(false, [(I, 0)])]⟩
def an12 : An := ⟨fun _ => none,
  fun _ => none,
  fun _ => none⟩
def s12 (n : Nat) : SmF := ⟨sm12, fun x => N.laws_szTaskS x.1 x.2⟩
def env12 (n : Nat) : List (FuncId × SmF) := []
theorem ev12 (n : Nat) (x : sm12.ins.D) : evFn (find tbl) (find (env12 n)) an12 n Try.f12 sm12 x = N.laws_szTaskS x.1 x.2 := by kernel_rfl
theorem ok12 (n : Nat) : FnOk Try.prog 12 (s12 n) := fn_native (an := an12) (n := n) Try.func12 rfl (by kernel_rfl) tblOk env_nil follows (ev12 n)
theorem body12 : HasBody Try.prog 12 := ⟨_, _, Try.func12, rfl, by kernel_rfl⟩

-- laws_toTask
def sm45 : Sm := ⟨[.val true [I, I, I, I]], [(true, [(I, 0), (I, 0), (I, 0), (I, 0)])]⟩
def an45 : An := ⟨fun _ => none,
  fun _ => none,
  fun _ => none⟩
def s45 (n : Nat) : SmF := ⟨sm45, fun x => N.laws_toTask x.1 x.2.1 x.2.2.1 x.2.2.2⟩
def env45 (n : Nat) : List (FuncId × SmF) := []
theorem ev45 (n : Nat) (x : sm45.ins.D) : evFn (find tbl) (find (env45 n)) an45 n Try.f45 sm45 x = N.laws_toTask x.1 x.2.1 x.2.2.1 x.2.2.2 := by kernel_rfl
theorem ok45 (n : Nat) : FnOk Try.prog 45 (s45 n) := fn_native (an := an45) (n := n) Try.func45 rfl (by kernel_rfl) tblOk env_nil follows (ev45 n)
theorem body45 : HasBody Try.prog 45 := ⟨_, _, Try.func45, rfl, by kernel_rfl⟩

-- laws_toTaskS
def sm14 : Sm := ⟨[.val false [(.sl 78 k5)]], [(false, [((.sl 75 k5), 2)])]⟩
def an14 : An := ⟨fun _ => none,
  fun b => match b with
    | 0 => some ([.slot 4 I, .own 3 75 k5 2 false], false)
    | _ => none,
  fun _ => none⟩
def s14 (n : Nat) : SmF := ⟨sm14, fun x => N.laws_toTaskS n x⟩
def env14 (n : Nat) : List (FuncId × SmF) := [(45, s45 n)]
theorem ev14 (n : Nat) (x : sm14.ins.D) : evFn (find tbl) (find (env14 n)) an14 n Try.f14 sm14 x = N.laws_toTaskS n x := by kernel_rfl
theorem ok14 (n : Nat) : FnOk Try.prog 14 (s14 n) := fn_native (an := an14) (n := n) Try.func14 rfl (by kernel_rfl) tblOk (env_cons (ok45 n) body45 env_nil) follows (ev14 n)
theorem body14 : HasBody Try.prog 14 := ⟨_, _, Try.func14, rfl, by kernel_rfl⟩

-- spec_l1In
def sm44 : Sm := ⟨[.val false [I], .val false [I], .val false [I]], [(false, [(.bool, 0)])]⟩
def an44 : An := ⟨fun _ => none,
  fun _ => none,
  fun _ => none⟩
def s44 (n : Nat) : SmF := ⟨sm44, fun x => N.spec_l1In x.1 x.2.1 x.2.2⟩
def env44 (n : Nat) : List (FuncId × SmF) := []
theorem ev44 (n : Nat) (x : sm44.ins.D) : evFn (find tbl) (find (env44 n)) an44 n Try.f44 sm44 x = N.spec_l1In x.1 x.2.1 x.2.2 := by kernel_rfl
theorem ok44 (n : Nat) : FnOk Try.prog 44 (s44 n) := fn_native (an := an44) (n := n) Try.func44 rfl (by kernel_rfl) tblOk env_nil follows (ev44 n)
theorem body44 : HasBody Try.prog 44 := ⟨_, _, Try.func44, rfl, by kernel_rfl⟩

-- spec_TasksOk
def sm13 : Sm := ⟨[.val false [(.sl 75 k5)]], [(false, [(.bool, 0)])]⟩
def an13 : An := ⟨fun _ => none,
  fun b => match b with
    | 0 => some ([.slot 3 I], true)
    | 2 => some ([.slot 6 I], true)
    | _ => none,
  fun _ => none⟩
def s13 (n : Nat) : SmF := ⟨sm13, fun x => N.spec_TasksOk n x⟩
def env13 (n : Nat) : List (FuncId × SmF) := [(44, s44 n)]
theorem ev13 (n : Nat) (x : sm13.ins.D) : evFn (find tbl) (find (env13 n)) an13 n Try.f13 sm13 x = N.spec_TasksOk n x := by kernel_rfl
theorem ok13 (n : Nat) : FnOk Try.prog 13 (s13 n) := fn_native (an := an13) (n := n) Try.func13 rfl (by kernel_rfl) tblOk (env_cons (ok44 n) body44 env_nil) follows (ev13 n)
theorem body13 : HasBody Try.prog 13 := ⟨_, _, Try.func13, rfl, by kernel_rfl⟩

-- impl_in
def sm46 : Sm := ⟨[.val false [I], .val false [I], .val false [I]], [(false, [(.bool, 0)])]⟩
def an46 : An := ⟨fun _ => none,
  fun _ => none,
  fun _ => none⟩
def s46 (n : Nat) : SmF := ⟨sm46, fun x => N.impl_in x.1 x.2.1 x.2.2⟩
def env46 (n : Nat) : List (FuncId × SmF) := []
theorem ev46 (n : Nat) (x : sm46.ins.D) : evFn (find tbl) (find (env46 n)) an46 n Try.f46 sm46 x = N.impl_in x.1 x.2.1 x.2.2 := by kernel_rfl
theorem ok46 (n : Nat) : FnOk Try.prog 46 (s46 n) := fn_native (an := an46) (n := n) Try.func46 rfl (by kernel_rfl) tblOk env_nil follows (ev46 n)
theorem body46 : HasBody Try.prog 46 := ⟨_, _, Try.func46, rfl, by kernel_rfl⟩

-- impl_TasksOk
def sm15 : Sm := ⟨[.val false [(.sl 75 k5)]], [(false, [(.bool, 0)])]⟩
def an15 : An := ⟨fun _ => none,
  fun b => match b with
    | 0 => some ([.slot 10 I], true)
    | 2 => some ([.slot 51 I], true)
    | _ => none,
  fun _ => none⟩
def s15 (n : Nat) : SmF := ⟨sm15, fun x => N.impl_TasksOk n x⟩
def env15 (n : Nat) : List (FuncId × SmF) := [(46, s46 n)]
theorem ev15 (n : Nat) (x : sm15.ins.D) : evFn (find tbl) (find (env15 n)) an15 n Try.f15 sm15 x = N.impl_TasksOk n x := by kernel_rfl
theorem ok15 (n : Nat) : FnOk Try.prog 15 (s15 n) := fn_native (an := an15) (n := n) Try.func15 rfl (by kernel_rfl) tblOk (env_cons (ok46 n) body46 env_nil) follows (ev15 n)
theorem body15 : HasBody Try.prog 15 := ⟨_, _, Try.func15, rfl, by kernel_rfl⟩

-- laws_eqTask
def sm47 : Sm := ⟨[.val true [I, I, I, I], .val true [I, I, I, I]], [(false, [(.bool, 0)])]⟩
def an47 : An := ⟨fun _ => none,
  fun _ => none,
  fun _ => none⟩
def s47 (n : Nat) : SmF := ⟨sm47, fun x => N.laws_eqTask x.1 x.2.1 x.2.2.1 x.2.2.2.1 x.2.2.2.2.1 x.2.2.2.2.2.1 x.2.2.2.2.2.2.1 x.2.2.2.2.2.2.2⟩
def env47 (n : Nat) : List (FuncId × SmF) := []
theorem ev47 (n : Nat) (x : sm47.ins.D) : evFn (find tbl) (find (env47 n)) an47 n Try.f47 sm47 x = N.laws_eqTask x.1 x.2.1 x.2.2.1 x.2.2.2.1 x.2.2.2.2.1 x.2.2.2.2.2.1 x.2.2.2.2.2.2.1 x.2.2.2.2.2.2.2 := by kernel_rfl
theorem ok47 (n : Nat) : FnOk Try.prog 47 (s47 n) := fn_native (an := an47) (n := n) Try.func47 rfl (by kernel_rfl) tblOk env_nil follows (ev47 n)
theorem body47 : HasBody Try.prog 47 := ⟨_, _, Try.func47, rfl, by kernel_rfl⟩

-- laws_eqTaskS
def sm16 : Sm := ⟨[.val false [(.sl 75 k5)], .val false [(.sl 75 k5)]], [(false, [(.bool, 0)])]⟩
def an16 : An := ⟨fun _ => none,
  fun b => match b with
    | 0 => some ([.slot 5 I], true)
    | _ => none,
  fun _ => none⟩
def s16 (n : Nat) : SmF := ⟨sm16, fun x => N.laws_eqTaskS n x.1 x.2⟩
def env16 (n : Nat) : List (FuncId × SmF) := [(47, s47 n)]
theorem ev16 (n : Nat) (x : sm16.ins.D) : evFn (find tbl) (find (env16 n)) an16 n Try.f16 sm16 x = N.laws_eqTaskS n x.1 x.2 := by kernel_rfl
theorem ok16 (n : Nat) : FnOk Try.prog 16 (s16 n) := fn_native (an := an16) (n := n) Try.func16 rfl (by kernel_rfl) tblOk (env_cons (ok47 n) body47 env_nil) follows (ev16 n)
theorem body16 : HasBody Try.prog 16 := ⟨_, _, Try.func16, rfl, by kernel_rfl⟩

-- laws_FnExactTasksOk
def sm4 : Sm := ⟨[.val false [(.sl 78 k5)]], [(false, [(.bool, 0)])]⟩
def an4 : An := ⟨fun _ => none,
  fun _ => none,
  fun _ => none⟩
def s4 (n : Nat) : SmF := ⟨sm4, fun x => N.laws_FnExactTasksOk n x⟩
def env4 (n : Nat) : List (FuncId × SmF) := [(12, s12 n), (13, s13 n), (14, s14 n), (15, s15 n), (16, s16 n)]
theorem ev4 (n : Nat) (x : sm4.ins.D) : evFn (find tbl) (find (env4 n)) an4 n Try.f4 sm4 x = N.laws_FnExactTasksOk n x := by kernel_rfl
theorem ok4 (n : Nat) : FnOk Try.prog 4 (s4 n) := fn_native (an := an4) (n := n) Try.func4 rfl (by kernel_rfl) tblOk (env_cons (ok12 n) body12 (env_cons (ok13 n) body13 (env_cons (ok14 n) body14 (env_cons (ok15 n) body15 (env_cons (ok16 n) body16 env_nil))))) follows (ev4 n)
theorem body4 : HasBody Try.prog 4 := ⟨_, _, Try.func4, rfl, by kernel_rfl⟩
end Go.Proofs.Ytcjameniijmodaa.Ev
