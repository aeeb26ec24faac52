/- Tables of types; summaries of the functions. Conditions: none. -/
import Derived.Test.YtcjameniijmodaaLib3
import Derived.Test.YtcjameniijmodaaFnExactLinkOkNat
import Derived.Test.YtcjameniijmodaaProg
import Derived.KernelRfl
namespace Go.Proofs.Ytcjameniijmodaa.Ev
open Go Go.Ev Go.Proofs
set_option linter.unusedVariables false
set_option maxRecDepth 100000

abbrev I : L := .int .i64
def k0 : Ls := (.cons .str (.one (.int .u64)))
def k1 : Ls := (.cons I (.one I))
def k2 : Ls := (.cons .bool (.cons I (.one I)))
def k3 : Ls := (.cons I (.cons I (.one I)))
def k4 : Ls := (.cons I (.cons I (.cons .bool (.one (.int .u8)))))
def k5 : Ls := (.cons I (.cons I (.cons I (.one I))))
def k6 : Ls := (.cons I (.cons I (.cons (.sl 107 k1) (.cons (.sl 112 k3) (.one I)))))
def k7 : Ls := (.cons I (.cons I (.cons (.sl 105 k1) (.cons (.sl 98 k3) (.one I)))))
def k8 : Ls := (.cons I (.cons I (.cons (.sl 107 k1) (.cons I (.cons I (.cons I (.one I)))))))
def k9 : Ls := (.cons I (.cons I (.cons (.sl 105 k1) (.cons I (.cons I (.cons I (.one I)))))))
def k10 : Ls := (.cons (.sl 3 (.one I)) (.cons I (.cons .bool (.cons I (.cons I (.cons I (.cons (.sl 3 (.one I)) (.one (.sl 92 k2)))))))))
def k11 : Ls := (.cons (.sl 3 (.one I)) (.cons I (.cons .bool (.cons I (.cons I (.cons I (.cons (.sl 3 (.one I)) (.one (.sl 110 k2)))))))))
def tbl : List (Nat × Ty) := [
  (3, ⟨false, (.one I), []⟩),
  (4, ⟨false, (.one .bool), []⟩),
  (31, ⟨false, (.one (.sl 3 (.one I))), []⟩),
  (32, ⟨false, (.one (.sl 92 k2)), []⟩),
  (34, ⟨true, k10, [(0, 31), (1, 3), (2, 4), (3, 3), (4, 3), (5, 3), (6, 31), (7, 32)]⟩),
  (50, ⟨false, (.one (.sl 110 k2)), []⟩),
  (52, ⟨true, k11, [(0, 31), (1, 3), (2, 4), (3, 3), (4, 3), (5, 3), (6, 31), (7, 50)]⟩),
  (92, ⟨true, k2, [(0, 4), (1, 3), (2, 3)]⟩),
  (110, ⟨true, k2, [(0, 4), (1, 3), (2, 3)]⟩)]
theorem tblOk : tbl.all (fun p => tyB Try.prog p.1 p.2) = true := by kernel_rfl
theorem follows : Try.prog.follows .mixedOrders = true := by kernel_rfl
-- laws_szIntS
def sm60 : Sm := ⟨[.val false [(.sl 3 (.one I))], .val false [I]], [(false, [(I, 0)])]⟩
def an60 : An := ⟨fun _ => none,
  fun _ => none,
  fun _ => none⟩
def s60 (n : Nat) : SmF := ⟨sm60, fun x => N.laws_szIntS x.1 x.2⟩
def env60 (n : Nat) : List (FuncId × SmF) := []
theorem ev60 (n : Nat) (x : sm60.ins.D) : evFn (find tbl) (find (env60 n)) an60 n Try.f60 sm60 x = N.laws_szIntS x.1 x.2 := by kernel_rfl
theorem ok60 (n : Nat) : FnOk Try.prog 60 (s60 n) := fn_native (an := an60) (n := n) Try.func60 rfl (by kernel_rfl) tblOk env_nil follows (ev60 n)
theorem body60 : HasBody Try.prog 60 := ⟨_, _, Try.func60, rfl, by kernel_rfl⟩

-- laws_szWordS
def sm61 : Sm := ⟨[.val false [(.sl 110 k2)], .val false [I]], [(false, [(I, 0)])]⟩
def an61 : An := ⟨fun _ => none,
  fun _ => none,
  fun _ => none⟩
def s61 (n : Nat) : SmF := ⟨sm61, fun x => N.laws_szWordS x.1 x.2⟩
def env61 (n : Nat) : List (FuncId × SmF) := []
theorem ev61 (n : Nat) (x : sm61.ins.D) : evFn (find tbl) (find (env61 n)) an61 n Try.f61 sm61 x = N.laws_szWordS x.1 x.2 := by kernel_rfl
theorem ok61 (n : Nat) : FnOk Try.prog 61 (s61 n) := fn_native (an := an61) (n := n) Try.func61 rfl (by kernel_rfl) tblOk env_nil follows (ev61 n)
theorem body61 : HasBody Try.prog 61 := ⟨_, _, Try.func61, rfl, by kernel_rfl⟩

-- laws_szLink
def sm27 : Sm := ⟨[.val true [(.sl 3 (.one I)), I, .bool, I, I, I, (.sl 3 (.one I)), (.sl 110 k2)], .val false [I]], [(false, [(I, 0)])]⟩
def an27 : An := ⟨fun _ => none,
  fun _ => none,
  fun _ => none⟩
def s27 (n : Nat) : SmF := ⟨sm27, fun x => N.laws_szLink x.1 x.2.1 x.2.2.1 x.2.2.2.1 x.2.2.2.2.1 x.2.2.2.2.2.1 x.2.2.2.2.2.2.1 x.2.2.2.2.2.2.2.1 x.2.2.2.2.2.2.2.2⟩
def env27 (n : Nat) : List (FuncId × SmF) := [(60, s60 n), (61, s61 n)]
theorem ev27 (n : Nat) (x : sm27.ins.D) : evFn (find tbl) (find (env27 n)) an27 n Try.f27 sm27 x = N.laws_szLink x.1 x.2.1 x.2.2.1 x.2.2.2.1 x.2.2.2.2.1 x.2.2.2.2.2.1 x.2.2.2.2.2.2.1 x.2.2.2.2.2.2.2.1 x.2.2.2.2.2.2.2.2 := by kernel_rfl
theorem ok27 (n : Nat) : FnOk Try.prog 27 (s27 n) := fn_native (an := an27) (n := n) Try.func27 rfl (by kernel_rfl) tblOk (env_cons (ok60 n) body60 (env_cons (ok61 n) body61 env_nil)) follows (ev27 n)
theorem body27 : HasBody Try.prog 27 := ⟨_, _, Try.func27, rfl, by kernel_rfl⟩

-- laws_toIntS
def sm63 : Sm := ⟨[.val false [(.sl 3 (.one I))]], [(false, [((.sl 3 (.one I)), 2)])]⟩
def an63 : An := ⟨fun _ => none,
  fun b => match b with
    | 0 => some ([.slot 4 I, .own 3 3 (.one I) 2 false], false)
    | _ => none,
  fun _ => none⟩
def s63 (n : Nat) : SmF := ⟨sm63, fun x => N.laws_toIntS n x⟩
def env63 (n : Nat) : List (FuncId × SmF) := []
theorem ev63 (n : Nat) (x : sm63.ins.D) : evFn (find tbl) (find (env63 n)) an63 n Try.f63 sm63 x = N.laws_toIntS n x := by kernel_rfl
theorem ok63 (n : Nat) : FnOk Try.prog 63 (s63 n) := fn_native (an := an63) (n := n) Try.func63 rfl (by kernel_rfl) tblOk env_nil follows (ev63 n)
theorem body63 : HasBody Try.prog 63 := ⟨_, _, Try.func63, rfl, by kernel_rfl⟩

-- laws_toWord
def sm77 : Sm := ⟨[.val true [.bool, I, I]], [(true, [(.bool, 0), (I, 0), (I, 0)])]⟩
def an77 : An := ⟨fun _ => none,
  fun _ => none,
  fun _ => none⟩
def s77 (n : Nat) : SmF := ⟨sm77, fun x => N.laws_toWord x.1 x.2.1 x.2.2⟩
def env77 (n : Nat) : List (FuncId × SmF) := []
theorem ev77 (n : Nat) (x : sm77.ins.D) : evFn (find tbl) (find (env77 n)) an77 n Try.f77 sm77 x = N.laws_toWord x.1 x.2.1 x.2.2 := by kernel_rfl
theorem ok77 (n : Nat) : FnOk Try.prog 77 (s77 n) := fn_native (an := an77) (n := n) Try.func77 rfl (by kernel_rfl) tblOk env_nil follows (ev77 n)
theorem body77 : HasBody Try.prog 77 := ⟨_, _, Try.func77, rfl, by kernel_rfl⟩

-- laws_toWordS
def sm64 : Sm := ⟨[.val false [(.sl 110 k2)]], [(false, [((.sl 92 k2), 2)])]⟩
def an64 : An := ⟨fun _ => none,
  fun b => match b with
    | 0 => some ([.slot 4 I, .own 3 92 k2 2 false], false)
    | _ => none,
  fun _ => none⟩
def s64 (n : Nat) : SmF := ⟨sm64, fun x => N.laws_toWordS n x⟩
def env64 (n : Nat) : List (FuncId × SmF) := [(77, s77 n)]
theorem ev64 (n : Nat) (x : sm64.ins.D) : evFn (find tbl) (find (env64 n)) an64 n Try.f64 sm64 x = N.laws_toWordS n x := by kernel_rfl
theorem ok64 (n : Nat) : FnOk Try.prog 64 (s64 n) := fn_native (an := an64) (n := n) Try.func64 rfl (by kernel_rfl) tblOk (env_cons (ok77 n) body77 env_nil) follows (ev64 n)
theorem body64 : HasBody Try.prog 64 := ⟨_, _, Try.func64, rfl, by kernel_rfl⟩

-- laws_toLink
def sm29 : Sm := ⟨[.val true [(.sl 3 (.one I)), I, .bool, I, I, I, (.sl 3 (.one I)), (.sl 110 k2)]], [(true, [((.sl 3 (.one I)), 2), (I, 0), (.bool, 0), (I, 0), (I, 0), (I, 0), ((.sl 3 (.one I)), 2), ((.sl 92 k2), 2)])]⟩
def an29 : An := ⟨fun _ => none,
  fun _ => none,
  fun _ => none⟩
def s29 (n : Nat) : SmF := ⟨sm29, fun x => N.laws_toLink n x.1 x.2.1 x.2.2.1 x.2.2.2.1 x.2.2.2.2.1 x.2.2.2.2.2.1 x.2.2.2.2.2.2.1 x.2.2.2.2.2.2.2⟩
def env29 (n : Nat) : List (FuncId × SmF) := [(63, s63 n), (64, s64 n)]
theorem ev29 (n : Nat) (x : sm29.ins.D) : evFn (find tbl) (find (env29 n)) an29 n Try.f29 sm29 x = N.laws_toLink n x.1 x.2.1 x.2.2.1 x.2.2.2.1 x.2.2.2.2.1 x.2.2.2.2.2.1 x.2.2.2.2.2.2.1 x.2.2.2.2.2.2.2 := by kernel_rfl
theorem ok29 (n : Nat) : FnOk Try.prog 29 (s29 n) := fn_native (an := an29) (n := n) Try.func29 rfl (by kernel_rfl) tblOk (env_cons (ok63 n) body63 (env_cons (ok64 n) body64 env_nil)) follows (ev29 n)
theorem body29 : HasBody Try.prog 29 := ⟨_, _, Try.func29, rfl, by kernel_rfl⟩

-- spec_l1In
def sm44 : Sm := ⟨[.val false [I], .val false [I], .val false [I]], [(false, [(.bool, 0)])]⟩
def an44 : An := ⟨fun _ => none,
  fun _ => none,
  fun _ => none⟩
def s44 (n : Nat) : SmF := ⟨sm44, fun x => N.spec_l1In x.1 x.2.1 x.2.2⟩
def env44 (n : Nat) : List (FuncId × SmF) := []
theorem ev44 (n : Nat) (x : sm44.ins.D) : evFn (find tbl) (find (env44 n)) an44 n Try.f44 sm44 x = N.spec_l1In x.1 x.2.1 x.2.2 := by kernel_rfl
theorem ok44 (n : Nat) : FnOk Try.prog 44 (s44 n) := fn_native (an := an44) (n := n) Try.func44 rfl (by kernel_rfl) tblOk env_nil follows (ev44 n)
theorem body44 : HasBody Try.prog 44 := ⟨_, _, Try.func44, rfl, by kernel_rfl⟩

-- spec_l10Whats
def sm62 : Sm := ⟨[.val false [(.sl 3 (.one I))]], [(false, [(.bool, 0)])]⟩
def an62 : An := ⟨fun _ => none,
  fun b => match b with
    | 0 => some ([.slot 3 I], true)
    | _ => none,
  fun _ => none⟩
def s62 (n : Nat) : SmF := ⟨sm62, fun x => N.spec_l10Whats n x⟩
def env62 (n : Nat) : List (FuncId × SmF) := [(44, s44 n)]
theorem ev62 (n : Nat) (x : sm62.ins.D) : evFn (find tbl) (find (env62 n)) an62 n Try.f62 sm62 x = N.spec_l10Whats n x := by kernel_rfl
theorem ok62 (n : Nat) : FnOk Try.prog 62 (s62 n) := fn_native (an := an62) (n := n) Try.func62 rfl (by kernel_rfl) tblOk (env_cons (ok44 n) body44 env_nil) follows (ev62 n)
theorem body62 : HasBody Try.prog 62 := ⟨_, _, Try.func62, rfl, by kernel_rfl⟩

-- spec_LinkOk
def sm28 : Sm := ⟨[.val true [(.sl 3 (.one I)), I, .bool, I, I, I, (.sl 3 (.one I)), (.sl 92 k2)]], [(false, [(.bool, 0)])]⟩
def an28 : An := ⟨fun _ => none,
  fun b => match b with
    | 0 => some ([.slot 3 I], true)
    | _ => none,
  fun _ => none⟩
def s28 (n : Nat) : SmF := ⟨sm28, fun x => N.spec_LinkOk n x.1 x.2.1 x.2.2.1 x.2.2.2.1 x.2.2.2.2.1 x.2.2.2.2.2.1 x.2.2.2.2.2.2.1 x.2.2.2.2.2.2.2⟩
def env28 (n : Nat) : List (FuncId × SmF) := [(44, s44 n), (62, s62 n)]
theorem ev28 (n : Nat) (x : sm28.ins.D) : evFn (find tbl) (find (env28 n)) an28 n Try.f28 sm28 x = N.spec_LinkOk n x.1 x.2.1 x.2.2.1 x.2.2.2.1 x.2.2.2.2.1 x.2.2.2.2.2.1 x.2.2.2.2.2.2.1 x.2.2.2.2.2.2.2 := by kernel_rfl
theorem ok28 (n : Nat) : FnOk Try.prog 28 (s28 n) := fn_native (an := an28) (n := n) Try.func28 rfl (by kernel_rfl) tblOk (env_cons (ok44 n) body44 (env_cons (ok62 n) body62 env_nil)) follows (ev28 n)
theorem body28 : HasBody Try.prog 28 := ⟨_, _, Try.func28, rfl, by kernel_rfl⟩

-- impl_in
def sm46 : Sm := ⟨[.val false [I], .val false [I], .val false [I]], [(false, [(.bool, 0)])]⟩
def an46 : An := ⟨fun _ => none,
  fun _ => none,
  fun _ => none⟩
def s46 (n : Nat) : SmF := ⟨sm46, fun x => N.impl_in x.1 x.2.1 x.2.2⟩
def env46 (n : Nat) : List (FuncId × SmF) := []
theorem ev46 (n : Nat) (x : sm46.ins.D) : evFn (find tbl) (find (env46 n)) an46 n Try.f46 sm46 x = N.impl_in x.1 x.2.1 x.2.2 := by kernel_rfl
theorem ok46 (n : Nat) : FnOk Try.prog 46 (s46 n) := fn_native (an := an46) (n := n) Try.func46 rfl (by kernel_rfl) tblOk env_nil follows (ev46 n)
theorem body46 : HasBody Try.prog 46 := ⟨_, _, Try.func46, rfl, by kernel_rfl⟩

-- impl_whatsOk
def sm65 : Sm := ⟨[.val false [(.sl 3 (.one I))]], [(false, [(.bool, 0)])]⟩
def an65 : An := ⟨fun _ => none,
  fun b => match b with
    | 0 => some ([.slot 7 I], true)
    | _ => none,
  fun _ => none⟩
def s65 (n : Nat) : SmF := ⟨sm65, fun x => N.impl_whatsOk n x⟩
def env65 (n : Nat) : List (FuncId × SmF) := [(46, s46 n)]
theorem ev65 (n : Nat) (x : sm65.ins.D) : evFn (find tbl) (find (env65 n)) an65 n Try.f65 sm65 x = N.impl_whatsOk n x := by kernel_rfl
theorem ok65 (n : Nat) : FnOk Try.prog 65 (s65 n) := fn_native (an := an65) (n := n) Try.func65 rfl (by kernel_rfl) tblOk (env_cons (ok46 n) body46 env_nil) follows (ev65 n)
theorem body65 : HasBody Try.prog 65 := ⟨_, _, Try.func65, rfl, by kernel_rfl⟩

-- impl_airOk
def sm66 : Sm := ⟨[.val false [(.sl 92 k2)]], [(false, [(.bool, 0)])]⟩
def an66 : An := ⟨fun _ => none,
  fun b => match b with
    | 0 => some ([.slot 7 I], true)
    | _ => none,
  fun _ => none⟩
def s66 (n : Nat) : SmF := ⟨sm66, fun x => N.impl_airOk n x⟩
def env66 (n : Nat) : List (FuncId × SmF) := [(46, s46 n)]
theorem ev66 (n : Nat) (x : sm66.ins.D) : evFn (find tbl) (find (env66 n)) an66 n Try.f66 sm66 x = N.impl_airOk n x := by kernel_rfl
theorem ok66 (n : Nat) : FnOk Try.prog 66 (s66 n) := fn_native (an := an66) (n := n) Try.func66 rfl (by kernel_rfl) tblOk (env_cons (ok46 n) body46 env_nil) follows (ev66 n)
theorem body66 : HasBody Try.prog 66 := ⟨_, _, Try.func66, rfl, by kernel_rfl⟩

-- impl_LinkOk
def sm30 : Sm := ⟨[.val true [(.sl 3 (.one I)), I, .bool, I, I, I, (.sl 3 (.one I)), (.sl 92 k2)]], [(false, [(.bool, 0)])]⟩
def an30 : An := ⟨fun _ => none,
  fun _ => none,
  fun _ => none⟩
def s30 (n : Nat) : SmF := ⟨sm30, fun x => N.impl_LinkOk n x.1 x.2.1 x.2.2.1 x.2.2.2.1 x.2.2.2.2.1 x.2.2.2.2.2.1 x.2.2.2.2.2.2.1 x.2.2.2.2.2.2.2⟩
def env30 (n : Nat) : List (FuncId × SmF) := [(46, s46 n), (65, s65 n), (66, s66 n)]
theorem ev30 (n : Nat) (x : sm30.ins.D) : evFn (find tbl) (find (env30 n)) an30 n Try.f30 sm30 x = N.impl_LinkOk n x.1 x.2.1 x.2.2.1 x.2.2.2.1 x.2.2.2.2.1 x.2.2.2.2.2.1 x.2.2.2.2.2.2.1 x.2.2.2.2.2.2.2 := by kernel_rfl
theorem ok30 (n : Nat) : FnOk Try.prog 30 (s30 n) := fn_native (an := an30) (n := n) Try.func30 rfl (by kernel_rfl) tblOk (env_cons (ok46 n) body46 (env_cons (ok65 n) body65 (env_cons (ok66 n) body66 env_nil))) follows (ev30 n)
theorem body30 : HasBody Try.prog 30 := ⟨_, _, Try.func30, rfl, by kernel_rfl⟩

-- laws_eqIntS
def sm48 : Sm := ⟨[.val false [(.sl 3 (.one I))], .val false [(.sl 3 (.one I))]], [(false, [(.bool, 0)])]⟩
def an48 : An := ⟨fun _ => none,
  fun b => match b with
    | 0 => some ([.slot 5 I], true)
    | _ => none,
  fun _ => none⟩
def s48 (n : Nat) : SmF := ⟨sm48, fun x => N.laws_eqIntS n x.1 x.2⟩
def env48 (n : Nat) : List (FuncId × SmF) := []
theorem ev48 (n : Nat) (x : sm48.ins.D) : evFn (find tbl) (find (env48 n)) an48 n Try.f48 sm48 x = N.laws_eqIntS n x.1 x.2 := by kernel_rfl
theorem ok48 (n : Nat) : FnOk Try.prog 48 (s48 n) := fn_native (an := an48) (n := n) Try.func48 rfl (by kernel_rfl) tblOk env_nil follows (ev48 n)
theorem body48 : HasBody Try.prog 48 := ⟨_, _, Try.func48, rfl, by kernel_rfl⟩

-- laws_eqWord
def sm73 : Sm := ⟨[.val true [.bool, I, I], .val true [.bool, I, I]], [(false, [(.bool, 0)])]⟩
def an73 : An := ⟨fun _ => none,
  fun _ => none,
  fun _ => none⟩
def s73 (n : Nat) : SmF := ⟨sm73, fun x => N.laws_eqWord x.1 x.2.1 x.2.2.1 x.2.2.2.1 x.2.2.2.2.1 x.2.2.2.2.2⟩
def env73 (n : Nat) : List (FuncId × SmF) := []
theorem ev73 (n : Nat) (x : sm73.ins.D) : evFn (find tbl) (find (env73 n)) an73 n Try.f73 sm73 x = N.laws_eqWord x.1 x.2.1 x.2.2.1 x.2.2.2.1 x.2.2.2.2.1 x.2.2.2.2.2 := by kernel_rfl
theorem ok73 (n : Nat) : FnOk Try.prog 73 (s73 n) := fn_native (an := an73) (n := n) Try.func73 rfl (by kernel_rfl) tblOk env_nil follows (ev73 n)
theorem body73 : HasBody Try.prog 73 := ⟨_, _, Try.func73, rfl, by kernel_rfl⟩

-- laws_eqWordS
def sm49 : Sm := ⟨[.val false [(.sl 92 k2)], .val false [(.sl 92 k2)]], [(false, [(.bool, 0)])]⟩
def an49 : An := ⟨fun _ => none,
  fun b => match b with
    | 0 => some ([.slot 5 I], true)
    | _ => none,
  fun _ => none⟩
def s49 (n : Nat) : SmF := ⟨sm49, fun x => N.laws_eqWordS n x.1 x.2⟩
def env49 (n : Nat) : List (FuncId × SmF) := [(73, s73 n)]
theorem ev49 (n : Nat) (x : sm49.ins.D) : evFn (find tbl) (find (env49 n)) an49 n Try.f49 sm49 x = N.laws_eqWordS n x.1 x.2 := by kernel_rfl
theorem ok49 (n : Nat) : FnOk Try.prog 49 (s49 n) := fn_native (an := an49) (n := n) Try.func49 rfl (by kernel_rfl) tblOk (env_cons (ok73 n) body73 env_nil) follows (ev49 n)
theorem body49 : HasBody Try.prog 49 := ⟨_, _, Try.func49, rfl, by kernel_rfl⟩

-- laws_eqLink
def sm19 : Sm := ⟨[.val true [(.sl 3 (.one I)), I, .bool, I, I, I, (.sl 3 (.one I)), (.sl 92 k2)], .val true [(.sl 3 (.one I)), I, .bool, I, I, I, (.sl 3 (.one I)), (.sl 92 k2)]], [(false, [(.bool, 0)])]⟩
def an19 : An := ⟨fun _ => none,
  fun _ => none,
  fun _ => none⟩
def s19 (n : Nat) : SmF := ⟨sm19, fun x => N.laws_eqLink n x.1 x.2.1 x.2.2.1 x.2.2.2.1 x.2.2.2.2.1 x.2.2.2.2.2.1 x.2.2.2.2.2.2.1 x.2.2.2.2.2.2.2.1 x.2.2.2.2.2.2.2.2.1 x.2.2.2.2.2.2.2.2.2.1 x.2.2.2.2.2.2.2.2.2.2.1 x.2.2.2.2.2.2.2.2.2.2.2.1 x.2.2.2.2.2.2.2.2.2.2.2.2.1 x.2.2.2.2.2.2.2.2.2.2.2.2.2.1 x.2.2.2.2.2.2.2.2.2.2.2.2.2.2.1 x.2.2.2.2.2.2.2.2.2.2.2.2.2.2.2⟩
def env19 (n : Nat) : List (FuncId × SmF) := [(48, s48 n), (49, s49 n)]
theorem ev19 (n : Nat) (x : sm19.ins.D) : evFn (find tbl) (find (env19 n)) an19 n Try.f19 sm19 x = N.laws_eqLink n x.1 x.2.1 x.2.2.1 x.2.2.2.1 x.2.2.2.2.1 x.2.2.2.2.2.1 x.2.2.2.2.2.2.1 x.2.2.2.2.2.2.2.1 x.2.2.2.2.2.2.2.2.1 x.2.2.2.2.2.2.2.2.2.1 x.2.2.2.2.2.2.2.2.2.2.1 x.2.2.2.2.2.2.2.2.2.2.2.1 x.2.2.2.2.2.2.2.2.2.2.2.2.1 x.2.2.2.2.2.2.2.2.2.2.2.2.2.1 x.2.2.2.2.2.2.2.2.2.2.2.2.2.2.1 x.2.2.2.2.2.2.2.2.2.2.2.2.2.2.2 := by kernel_rfl
theorem ok19 (n : Nat) : FnOk Try.prog 19 (s19 n) := fn_native (an := an19) (n := n) Try.func19 rfl (by kernel_rfl) tblOk (env_cons (ok48 n) body48 (env_cons (ok49 n) body49 env_nil)) follows (ev19 n)
theorem body19 : HasBody Try.prog 19 := ⟨_, _, Try.func19, rfl, by kernel_rfl⟩

-- laws_FnExactLinkOk
def sm7 : Sm := ⟨[.val true [(.sl 3 (.one I)), I, .bool, I, I, I, (.sl 3 (.one I)), (.sl 110 k2)]], [(false, [(.bool, 0)])]⟩
def an7 : An := ⟨fun _ => none,
  fun _ => none,
  fun _ => none⟩
def s7 (n : Nat) : SmF := ⟨sm7, fun x => N.laws_FnExactLinkOk n x.1 x.2.1 x.2.2.1 x.2.2.2.1 x.2.2.2.2.1 x.2.2.2.2.2.1 x.2.2.2.2.2.2.1 x.2.2.2.2.2.2.2⟩
def env7 (n : Nat) : List (FuncId × SmF) := [(19, s19 n), (27, s27 n), (28, s28 n), (29, s29 n), (30, s30 n)]
theorem ev7 (n : Nat) (x : sm7.ins.D) : evFn (find tbl) (find (env7 n)) an7 n Try.f7 sm7 x = N.laws_FnExactLinkOk n x.1 x.2.1 x.2.2.1 x.2.2.2.1 x.2.2.2.2.1 x.2.2.2.2.2.1 x.2.2.2.2.2.2.1 x.2.2.2.2.2.2.2 := by kernel_rfl
theorem ok7 (n : Nat) : FnOk Try.prog 7 (s7 n) := fn_native (an := an7) (n := n) Try.func7 rfl (by kernel_rfl) tblOk (env_cons (ok19 n) body19 (env_cons (ok27 n) body27 (env_cons (ok28 n) body28 (env_cons (ok29 n) body29 (env_cons (ok30 n) body30 env_nil))))) follows (ev7 n)
theorem body7 : HasBody Try.prog 7 := ⟨_, _, Try.func7, rfl, by kernel_rfl⟩
end Go.Proofs.Ytcjameniijmodaa.Ev
