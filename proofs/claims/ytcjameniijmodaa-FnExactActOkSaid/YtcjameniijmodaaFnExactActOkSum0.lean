/- Tables of types; summaries of the functions. Conditions: none. -/
import Derived.Test.YtcjameniijmodaaLib3
import Derived.Test.YtcjameniijmodaaFnExactActOkNat
import Derived.Test.YtcjameniijmodaaProg
import Derived.KernelRfl
namespace Go.Proofs.Ytcjameniijmodaa.Ev
open Go Go.Ev Go.Proofs
set_option linter.unusedVariables false
set_option maxRecDepth 100000

abbrev I : L := .int .i64
def k0 : Ls := (.cons .str (.one (.int .u64)))
def k1 : Ls := (.cons I (.one I))
def k2 : Ls := (.cons .bool (.cons I (.one I)))
def k3 : Ls := (.cons I (.cons I (.one I)))
def k4 : Ls := (.cons I (.cons I (.cons .bool (.one (.int .u8)))))
def k5 : Ls := (.cons I (.cons I (.cons I (.one I))))
def k6 : Ls := (.cons I (.cons I (.cons (.sl 107 k1) (.cons (.sl 112 k3) (.one I)))))
def k7 : Ls := (.cons I (.cons I (.cons (.sl 105 k1) (.cons (.sl 98 k3) (.one I)))))
def k8 : Ls := (.cons I (.cons I (.cons (.sl 107 k1) (.cons I (.cons I (.cons I (.one I)))))))
def k9 : Ls := (.cons I (.cons I (.cons (.sl 105 k1) (.cons I (.cons I (.cons I (.one I)))))))
def k10 : Ls := (.cons (.sl 3 (.one I)) (.cons I (.cons .bool (.cons I (.cons I (.cons I (.cons (.sl 3 (.one I)) (.one (.sl 92 k2)))))))))
def k11 : Ls := (.cons (.sl 3 (.one I)) (.cons I (.cons .bool (.cons I (.cons I (.cons I (.cons (.sl 3 (.one I)) (.one (.sl 110 k2)))))))))
def tbl : List (Nat × Ty) := [
  (3, ⟨false, (.one I), []⟩),
  (4, ⟨false, (.one .bool), []⟩),
  (39, ⟨false, (.one (.sl 107 k1)), []⟩),
  (41, ⟨true, k8, [(0, 3), (1, 3), (2, 39), (3, 3), (4, 3), (5, 3), (6, 3)]⟩),
  (44, ⟨false, (.one (.sl 105 k1)), []⟩),
  (46, ⟨true, k9, [(0, 3), (1, 3), (2, 44), (3, 3), (4, 3), (5, 3), (6, 3)]⟩),
  (105, ⟨true, k1, [(0, 3), (1, 3)]⟩),
  (107, ⟨true, k1, [(0, 3), (1, 3)]⟩)]
theorem tblOk : tbl.all (fun p => tyB Try.prog p.1 p.2) = true := by kernel_rfl
theorem follows : Try.prog.follows .mixedOrders = true := by kernel_rfl
-- laws_szItemS
def sm54 : Sm := ⟨[.val false [(.sl 107 k1)], .val false [I]], [(false, [(I, 0)])]⟩
def an54 : An := ⟨fun _ => none,
  fun _ => none,
  fun _ => none⟩
def s54 (n : Nat) : SmF := ⟨sm54, fun x => N.laws_szItemS x.1 x.2⟩
def env54 (n : Nat) : List (FuncId × SmF) := []
theorem ev54 (n : Nat) (x : sm54.ins.D) : evFn (find tbl) (find (env54 n)) an54 n Try.f54 sm54 x = N.laws_szItemS x.1 x.2 := by kernel_rfl
theorem ok54 (n : Nat) : FnOk Try.prog 54 (s54 n) := fn_native (an := an54) (n := n) Try.func54 rfl (by kernel_rfl) tblOk env_nil follows (ev54 n)
theorem body54 : HasBody Try.prog 54 := ⟨_, _, Try.func54, rfl, by kernel_rfl⟩

-- laws_szAct
def sm22 : Sm := ⟨[.val true [I, I, (.sl 107 k1), I, I, I, I], .val false [I]], [(false, [(I, 0)])]⟩
def an22 : An := ⟨fun _ => none,
  fun _ => none,
  fun _ => none⟩
def s22 (n : Nat) : SmF := ⟨sm22, fun x => N.laws_szAct x.1 x.2.1 x.2.2.1 x.2.2.2.1 x.2.2.2.2.1 x.2.2.2.2.2.1 x.2.2.2.2.2.2.1 x.2.2.2.2.2.2.2⟩
def env22 (n : Nat) : List (FuncId × SmF) := [(54, s54 n)]
theorem ev22 (n : Nat) (x : sm22.ins.D) : evFn (find tbl) (find (env22 n)) an22 n Try.f22 sm22 x = N.laws_szAct x.1 x.2.1 x.2.2.1 x.2.2.2.1 x.2.2.2.2.1 x.2.2.2.2.2.1 x.2.2.2.2.2.2.1 x.2.2.2.2.2.2.2 := by kernel_rfl
theorem ok22 (n : Nat) : FnOk Try.prog 22 (s22 n) := fn_native (an := an22) (n := n) Try.func22 rfl (by kernel_rfl) tblOk (env_cons (ok54 n) body54 env_nil) follows (ev22 n)
theorem body22 : HasBody Try.prog 22 := ⟨_, _, Try.func22, rfl, by kernel_rfl⟩

-- laws_toItem
def sm74 : Sm := ⟨[.val true [I, I]], [(true, [(I, 0), (I, 0)])]⟩
def an74 : An := ⟨fun _ => none,
  fun _ => none,
  fun _ => none⟩
def s74 (n : Nat) : SmF := ⟨sm74, fun x => N.laws_toItem x.1 x.2⟩
def env74 (n : Nat) : List (FuncId × SmF) := []
theorem ev74 (n : Nat) (x : sm74.ins.D) : evFn (find tbl) (find (env74 n)) an74 n Try.f74 sm74 x = N.laws_toItem x.1 x.2 := by kernel_rfl
theorem ok74 (n : Nat) : FnOk Try.prog 74 (s74 n) := fn_native (an := an74) (n := n) Try.func74 rfl (by kernel_rfl) tblOk env_nil follows (ev74 n)
theorem body74 : HasBody Try.prog 74 := ⟨_, _, Try.func74, rfl, by kernel_rfl⟩

-- laws_toItemS
def sm57 : Sm := ⟨[.val false [(.sl 107 k1)]], [(false, [((.sl 105 k1), 2)])]⟩
def an57 : An := ⟨fun _ => none,
  fun b => match b with
    | 0 => some ([.slot 4 I, .own 3 105 k1 2 false], false)
    | _ => none,
  fun _ => none⟩
def s57 (n : Nat) : SmF := ⟨sm57, fun x => N.laws_toItemS n x⟩
def env57 (n : Nat) : List (FuncId × SmF) := [(74, s74 n)]
theorem ev57 (n : Nat) (x : sm57.ins.D) : evFn (find tbl) (find (env57 n)) an57 n Try.f57 sm57 x = N.laws_toItemS n x := by kernel_rfl
theorem ok57 (n : Nat) : FnOk Try.prog 57 (s57 n) := fn_native (an := an57) (n := n) Try.func57 rfl (by kernel_rfl) tblOk (env_cons (ok74 n) body74 env_nil) follows (ev57 n)
theorem body57 : HasBody Try.prog 57 := ⟨_, _, Try.func57, rfl, by kernel_rfl⟩

-- laws_toAct
def sm24 : Sm := ⟨[.val true [I, I, (.sl 107 k1), I, I, I, I]], [(true, [(I, 0), (I, 0), ((.sl 105 k1), 2), (I, 0), (I, 0), (I, 0), (I, 0)])]⟩
def an24 : An := ⟨fun _ => none,
  fun _ => none,
  fun _ => none⟩
def s24 (n : Nat) : SmF := ⟨sm24, fun x => N.laws_toAct n x.1 x.2.1 x.2.2.1 x.2.2.2.1 x.2.2.2.2.1 x.2.2.2.2.2.1 x.2.2.2.2.2.2⟩
def env24 (n : Nat) : List (FuncId × SmF) := [(57, s57 n)]
theorem ev24 (n : Nat) (x : sm24.ins.D) : evFn (find tbl) (find (env24 n)) an24 n Try.f24 sm24 x = N.laws_toAct n x.1 x.2.1 x.2.2.1 x.2.2.2.1 x.2.2.2.2.1 x.2.2.2.2.2.1 x.2.2.2.2.2.2 := by kernel_rfl
theorem ok24 (n : Nat) : FnOk Try.prog 24 (s24 n) := fn_native (an := an24) (n := n) Try.func24 rfl (by kernel_rfl) tblOk (env_cons (ok57 n) body57 env_nil) follows (ev24 n)
theorem body24 : HasBody Try.prog 24 := ⟨_, _, Try.func24, rfl, by kernel_rfl⟩

-- spec_l14Only
def sm55 : Sm := ⟨[.val true [I, I, (.sl 105 k1), I, I, I, I], .val false [.bool], .val false [.bool], .val false [.bool], .val false [.bool]], [(false, [(.bool, 0)])]⟩
def an55 : An := ⟨fun _ => none,
  fun _ => none,
  fun _ => none⟩
def s55 (n : Nat) : SmF := ⟨sm55, fun x => N.spec_l14Only x.1 x.2.1 x.2.2.1 x.2.2.2.1 x.2.2.2.2.1 x.2.2.2.2.2.1 x.2.2.2.2.2.2.1 x.2.2.2.2.2.2.2.1 x.2.2.2.2.2.2.2.2.1 x.2.2.2.2.2.2.2.2.2.1 x.2.2.2.2.2.2.2.2.2.2⟩
def env55 (n : Nat) : List (FuncId × SmF) := []
theorem ev55 (n : Nat) (x : sm55.ins.D) : evFn (find tbl) (find (env55 n)) an55 n Try.f55 sm55 x = N.spec_l14Only x.1 x.2.1 x.2.2.1 x.2.2.2.1 x.2.2.2.2.1 x.2.2.2.2.2.1 x.2.2.2.2.2.2.1 x.2.2.2.2.2.2.2.1 x.2.2.2.2.2.2.2.2.1 x.2.2.2.2.2.2.2.2.2.1 x.2.2.2.2.2.2.2.2.2.2 := by kernel_rfl
theorem ok55 (n : Nat) : FnOk Try.prog 55 (s55 n) := fn_native (an := an55) (n := n) Try.func55 rfl (by kernel_rfl) tblOk env_nil follows (ev55 n)
theorem body55 : HasBody Try.prog 55 := ⟨_, _, Try.func55, rfl, by kernel_rfl⟩

-- spec_l1In
def sm44 : Sm := ⟨[.val false [I], .val false [I], .val false [I]], [(false, [(.bool, 0)])]⟩
def an44 : An := ⟨fun _ => none,
  fun _ => none,
  fun _ => none⟩
def s44 (n : Nat) : SmF := ⟨sm44, fun x => N.spec_l1In x.1 x.2.1 x.2.2⟩
def env44 (n : Nat) : List (FuncId × SmF) := []
theorem ev44 (n : Nat) (x : sm44.ins.D) : evFn (find tbl) (find (env44 n)) an44 n Try.f44 sm44 x = N.spec_l1In x.1 x.2.1 x.2.2 := by kernel_rfl
theorem ok44 (n : Nat) : FnOk Try.prog 44 (s44 n) := fn_native (an := an44) (n := n) Try.func44 rfl (by kernel_rfl) tblOk env_nil follows (ev44 n)
theorem body44 : HasBody Try.prog 44 := ⟨_, _, Try.func44, rfl, by kernel_rfl⟩

-- spec_ItemsOk
def sm56 : Sm := ⟨[.val false [(.sl 105 k1)]], [(false, [(.bool, 0)])]⟩
def an56 : An := ⟨fun _ => none,
  fun b => match b with
    | 0 => some ([.slot 3 I], true)
    | _ => none,
  fun _ => none⟩
def s56 (n : Nat) : SmF := ⟨sm56, fun x => N.spec_ItemsOk n x⟩
def env56 (n : Nat) : List (FuncId × SmF) := [(44, s44 n)]
theorem ev56 (n : Nat) (x : sm56.ins.D) : evFn (find tbl) (find (env56 n)) an56 n Try.f56 sm56 x = N.spec_ItemsOk n x := by kernel_rfl
theorem ok56 (n : Nat) : FnOk Try.prog 56 (s56 n) := fn_native (an := an56) (n := n) Try.func56 rfl (by kernel_rfl) tblOk (env_cons (ok44 n) body44 env_nil) follows (ev56 n)
theorem body56 : HasBody Try.prog 56 := ⟨_, _, Try.func56, rfl, by kernel_rfl⟩

-- spec_ActOk
def sm23 : Sm := ⟨[.val true [I, I, (.sl 105 k1), I, I, I, I]], [(false, [(.bool, 0)])]⟩
def an23 : An := ⟨fun _ => none,
  fun _ => none,
  fun _ => none⟩
def s23 (n : Nat) : SmF := ⟨sm23, fun x => N.spec_ActOk n x.1 x.2.1 x.2.2.1 x.2.2.2.1 x.2.2.2.2.1 x.2.2.2.2.2.1 x.2.2.2.2.2.2⟩
def env23 (n : Nat) : List (FuncId × SmF) := [(44, s44 n), (55, s55 n), (56, s56 n)]
theorem ev23 (n : Nat) (x : sm23.ins.D) : evFn (find tbl) (find (env23 n)) an23 n Try.f23 sm23 x = N.spec_ActOk n x.1 x.2.1 x.2.2.1 x.2.2.2.1 x.2.2.2.2.1 x.2.2.2.2.2.1 x.2.2.2.2.2.2 := by kernel_rfl
theorem ok23 (n : Nat) : FnOk Try.prog 23 (s23 n) := fn_native (an := an23) (n := n) Try.func23 rfl (by kernel_rfl) tblOk (env_cons (ok44 n) body44 (env_cons (ok55 n) body55 (env_cons (ok56 n) body56 env_nil))) follows (ev23 n)
theorem body23 : HasBody Try.prog 23 := ⟨_, _, Try.func23, rfl, by kernel_rfl⟩

-- impl_in
def sm46 : Sm := ⟨[.val false [I], .val false [I], .val false [I]], [(false, [(.bool, 0)])]⟩
def an46 : An := ⟨fun _ => none,
  fun _ => none,
  fun _ => none⟩
def s46 (n : Nat) : SmF := ⟨sm46, fun x => N.impl_in x.1 x.2.1 x.2.2⟩
def env46 (n : Nat) : List (FuncId × SmF) := []
theorem ev46 (n : Nat) (x : sm46.ins.D) : evFn (find tbl) (find (env46 n)) an46 n Try.f46 sm46 x = N.impl_in x.1 x.2.1 x.2.2 := by kernel_rfl
theorem ok46 (n : Nat) : FnOk Try.prog 46 (s46 n) := fn_native (an := an46) (n := n) Try.func46 rfl (by kernel_rfl) tblOk env_nil follows (ev46 n)
theorem body46 : HasBody Try.prog 46 := ⟨_, _, Try.func46, rfl, by kernel_rfl⟩

-- impl_ItemsOk
def sm75 : Sm := ⟨[.val false [(.sl 105 k1)]], [(false, [(.bool, 0)])]⟩
def an75 : An := ⟨fun _ => none,
  fun b => match b with
    | 0 => some ([.slot 7 I], true)
    | _ => none,
  fun _ => none⟩
def s75 (n : Nat) : SmF := ⟨sm75, fun x => N.impl_ItemsOk n x⟩
def env75 (n : Nat) : List (FuncId × SmF) := [(46, s46 n)]
theorem ev75 (n : Nat) (x : sm75.ins.D) : evFn (find tbl) (find (env75 n)) an75 n Try.f75 sm75 x = N.impl_ItemsOk n x := by kernel_rfl
theorem ok75 (n : Nat) : FnOk Try.prog 75 (s75 n) := fn_native (an := an75) (n := n) Try.func75 rfl (by kernel_rfl) tblOk (env_cons (ok46 n) body46 env_nil) follows (ev75 n)
theorem body75 : HasBody Try.prog 75 := ⟨_, _, Try.func75, rfl, by kernel_rfl⟩

-- impl_orderAct
def sm58 : Sm := ⟨[.val true [I, I, (.sl 105 k1), I, I, I, I]], [(false, [(.bool, 0)])]⟩
def an58 : An := ⟨fun _ => none,
  fun _ => none,
  fun _ => none⟩
def s58 (n : Nat) : SmF := ⟨sm58, fun x => N.impl_orderAct n x.1 x.2.1 x.2.2.1 x.2.2.2.1 x.2.2.2.2.1 x.2.2.2.2.2.1 x.2.2.2.2.2.2⟩
def env58 (n : Nat) : List (FuncId × SmF) := [(46, s46 n), (75, s75 n)]
theorem ev58 (n : Nat) (x : sm58.ins.D) : evFn (find tbl) (find (env58 n)) an58 n Try.f58 sm58 x = N.impl_orderAct n x.1 x.2.1 x.2.2.1 x.2.2.2.1 x.2.2.2.2.1 x.2.2.2.2.2.1 x.2.2.2.2.2.2 := by kernel_rfl
theorem ok58 (n : Nat) : FnOk Try.prog 58 (s58 n) := fn_native (an := an58) (n := n) Try.func58 rfl (by kernel_rfl) tblOk (env_cons (ok46 n) body46 (env_cons (ok75 n) body75 env_nil)) follows (ev58 n)
theorem body58 : HasBody Try.prog 58 := ⟨_, _, Try.func58, rfl, by kernel_rfl⟩

-- impl_ActOk
def sm25 : Sm := ⟨[.val true [I, I, (.sl 105 k1), I, I, I, I]], [(false, [(.bool, 0)])]⟩
def an25 : An := ⟨fun _ => none,
  fun _ => none,
  fun _ => none⟩
def s25 (n : Nat) : SmF := ⟨sm25, fun x => N.impl_ActOk n x.1 x.2.1 x.2.2.1 x.2.2.2.1 x.2.2.2.2.1 x.2.2.2.2.2.1 x.2.2.2.2.2.2⟩
def env25 (n : Nat) : List (FuncId × SmF) := [(46, s46 n), (58, s58 n)]
theorem ev25 (n : Nat) (x : sm25.ins.D) : evFn (find tbl) (find (env25 n)) an25 n Try.f25 sm25 x = N.impl_ActOk n x.1 x.2.1 x.2.2.1 x.2.2.2.1 x.2.2.2.2.1 x.2.2.2.2.2.1 x.2.2.2.2.2.2 := by kernel_rfl
theorem ok25 (n : Nat) : FnOk Try.prog 25 (s25 n) := fn_native (an := an25) (n := n) Try.func25 rfl (by kernel_rfl) tblOk (env_cons (ok46 n) body46 (env_cons (ok58 n) body58 env_nil)) follows (ev25 n)
theorem body25 : HasBody Try.prog 25 := ⟨_, _, Try.func25, rfl, by kernel_rfl⟩

-- laws_eqItem
def sm76 : Sm := ⟨[.val true [I, I], .val true [I, I]], [(false, [(.bool, 0)])]⟩
def an76 : An := ⟨fun _ => none,
  fun _ => none,
  fun _ => none⟩
def s76 (n : Nat) : SmF := ⟨sm76, fun x => N.laws_eqItem x.1 x.2.1 x.2.2.1 x.2.2.2⟩
def env76 (n : Nat) : List (FuncId × SmF) := []
theorem ev76 (n : Nat) (x : sm76.ins.D) : evFn (find tbl) (find (env76 n)) an76 n Try.f76 sm76 x = N.laws_eqItem x.1 x.2.1 x.2.2.1 x.2.2.2 := by kernel_rfl
theorem ok76 (n : Nat) : FnOk Try.prog 76 (s76 n) := fn_native (an := an76) (n := n) Try.func76 rfl (by kernel_rfl) tblOk env_nil follows (ev76 n)
theorem body76 : HasBody Try.prog 76 := ⟨_, _, Try.func76, rfl, by kernel_rfl⟩

-- laws_eqItemS
def sm59 : Sm := ⟨[.val false [(.sl 105 k1)], .val false [(.sl 105 k1)]], [(false, [(.bool, 0)])]⟩
def an59 : An := ⟨fun _ => none,
  fun b => match b with
    | 0 => some ([.slot 5 I], true)
    | _ => none,
  fun _ => none⟩
def s59 (n : Nat) : SmF := ⟨sm59, fun x => N.laws_eqItemS n x.1 x.2⟩
def env59 (n : Nat) : List (FuncId × SmF) := [(76, s76 n)]
theorem ev59 (n : Nat) (x : sm59.ins.D) : evFn (find tbl) (find (env59 n)) an59 n Try.f59 sm59 x = N.laws_eqItemS n x.1 x.2 := by kernel_rfl
theorem ok59 (n : Nat) : FnOk Try.prog 59 (s59 n) := fn_native (an := an59) (n := n) Try.func59 rfl (by kernel_rfl) tblOk (env_cons (ok76 n) body76 env_nil) follows (ev59 n)
theorem body59 : HasBody Try.prog 59 := ⟨_, _, Try.func59, rfl, by kernel_rfl⟩

-- laws_eqAct
def sm26 : Sm := ⟨[.val true [I, I, (.sl 105 k1), I, I, I, I], .val true [I, I, (.sl 105 k1), I, I, I, I]], [(false, [(.bool, 0)])]⟩
def an26 : An := ⟨fun _ => none,
  fun _ => none,
  fun _ => none⟩
def s26 (n : Nat) : SmF := ⟨sm26, fun x => N.laws_eqAct n x.1 x.2.1 x.2.2.1 x.2.2.2.1 x.2.2.2.2.1 x.2.2.2.2.2.1 x.2.2.2.2.2.2.1 x.2.2.2.2.2.2.2.1 x.2.2.2.2.2.2.2.2.1 x.2.2.2.2.2.2.2.2.2.1 x.2.2.2.2.2.2.2.2.2.2.1 x.2.2.2.2.2.2.2.2.2.2.2.1 x.2.2.2.2.2.2.2.2.2.2.2.2.1 x.2.2.2.2.2.2.2.2.2.2.2.2.2⟩
def env26 (n : Nat) : List (FuncId × SmF) := [(59, s59 n)]
theorem ev26 (n : Nat) (x : sm26.ins.D) : evFn (find tbl) (find (env26 n)) an26 n Try.f26 sm26 x = N.laws_eqAct n x.1 x.2.1 x.2.2.1 x.2.2.2.1 x.2.2.2.2.1 x.2.2.2.2.2.1 x.2.2.2.2.2.2.1 x.2.2.2.2.2.2.2.1 x.2.2.2.2.2.2.2.2.1 x.2.2.2.2.2.2.2.2.2.1 x.2.2.2.2.2.2.2.2.2.2.1 x.2.2.2.2.2.2.2.2.2.2.2.1 x.2.2.2.2.2.2.2.2.2.2.2.2.1 x.2.2.2.2.2.2.2.2.2.2.2.2.2 := by kernel_rfl
theorem ok26 (n : Nat) : FnOk Try.prog 26 (s26 n) := fn_native (an := an26) (n := n) Try.func26 rfl (by kernel_rfl) tblOk (env_cons (ok59 n) body59 env_nil) follows (ev26 n)
theorem body26 : HasBody Try.prog 26 := ⟨_, _, Try.func26, rfl, by kernel_rfl⟩

-- laws_FnExactActOk
def sm6 : Sm := ⟨[.val true [I, I, (.sl 107 k1), I, I, I, I]], [(false, [(.bool, 0)])]⟩
def an6 : An := ⟨fun _ => none,
  fun _ => none,
  fun _ => none⟩
def s6 (n : Nat) : SmF := ⟨sm6, fun x => N.laws_FnExactActOk n x.1 x.2.1 x.2.2.1 x.2.2.2.1 x.2.2.2.2.1 x.2.2.2.2.2.1 x.2.2.2.2.2.2⟩
def env6 (n : Nat) : List (FuncId × SmF) := [(22, s22 n), (23, s23 n), (24, s24 n), (25, s25 n), (26, s26 n)]
theorem ev6 (n : Nat) (x : sm6.ins.D) : evFn (find tbl) (find (env6 n)) an6 n Try.f6 sm6 x = N.laws_FnExactActOk n x.1 x.2.1 x.2.2.1 x.2.2.2.1 x.2.2.2.2.1 x.2.2.2.2.2.1 x.2.2.2.2.2.2 := by kernel_rfl
theorem ok6 (n : Nat) : FnOk Try.prog 6 (s6 n) := fn_native (an := an6) (n := n) Try.func6 rfl (by kernel_rfl) tblOk (env_cons (ok22 n) body22 (env_cons (ok23 n) body23 (env_cons (ok24 n) body24 (env_cons (ok25 n) body25 (env_cons (ok26 n) body26 env_nil))))) follows (ev6 n)
theorem body6 : HasBody Try.prog 6 := ⟨_, _, Try.func6, rfl, by kernel_rfl⟩
end Go.Proofs.Ytcjameniijmodaa.Ev
