/- Tables of types; summaries of the functions. Conditions: none. -/
import Derived.Test.YtafobglpmhfcgaaLib4
import Derived.Test.YtafobglpmhfcgaaFnCalmNat
import Derived.Test.YtafobglpmhfcgaaProg
import Derived.KernelRfl
namespace Go.Proofs.Ytafobglpmhfcgaa.Ev
open Go Go.Ev Go.Proofs
set_option linter.unusedVariables false
set_option maxRecDepth 100000

abbrev I : L := .int .i64
/-- Package-level variables that are looked at. -/
abbrev TT : List (String × Array Value) := []
def k0 : Ls := (.cons .str (.one (.int .u64)))
def k1 : Ls := (.cons .bool (.cons I (.one I)))
def k2 : Ls := (.cons I (.cons I (.cons .bool (.one (.int .u8)))))
def k3 : Ls := (.cons (.sl 5 (.one (.int .u8))) (.cons I (.one I)))
def k4 : Ls := (.cons (.sl 3 (.one I)) (.cons I (.cons .bool (.cons I (.cons I (.cons I (.cons (.sl 3 (.one I)) (.one (.sl 52 k1)))))))))
def tbl : List (Nat × Ty) := [
  (3, ⟨false, (.one I), []⟩),
  (4, ⟨false, (.one .bool), []⟩),
  (5, ⟨false, (.one (.int .u8)), []⟩),
  (22, ⟨false, (.one (.sl 5 (.one (.int .u8)))), []⟩),
  (24, ⟨false, (.one (.sl 3 (.one I))), []⟩),
  (25, ⟨false, (.one (.sl 52 k1)), []⟩),
  (27, ⟨true, k4, [(0, 24), (1, 3), (2, 4), (3, 3), (4, 3), (5, 3), (6, 24), (7, 25)]⟩),
  (44, ⟨true, k3, [(0, 22), (1, 3), (2, 3)]⟩),
  (52, ⟨true, k1, [(0, 4), (1, 3), (2, 3)]⟩)]
theorem tblOk : tbl.all (fun p => tyB Try.prog p.1 p.2) = true := by kernel_rfl
theorem follows : Try.prog.follows .mixedOrders = true := by kernel_rfl
-- laws_big
def sm4 : Sm := ⟨[.val false [(.sl 5 (.one (.int .u8)))]], [(false, [(.bool, 0)])]⟩
def an4 : An := ⟨fun _ => none,
  fun _ => none,
  fun _ => none⟩
def s4 (n : Nat) : SmF := ⟨sm4, fun x => N.laws_big x⟩
def env4 (n : Nat) : List (FuncId × SmF) := []
theorem ev4 (n : Nat) (x : sm4.ins.D) : evFn (find tbl) (find (env4 n)) an4 n Try.f4 sm4 x = N.laws_big x := by kernel_rfl
theorem ok4 (n : Nat) : FnOk Try.prog TT 4 (s4 n) := fn_native (an := an4) (n := n) Try.func4 rfl (by kernel_rfl) tblOk env_nil follows (ev4 n)
theorem body4 : HasBody Try.prog 4 := ⟨_, _, Try.func4, rfl, by kernel_rfl⟩

-- spec_l1New
def sm10 : Sm := ⟨[.val false [(.sl 5 (.one (.int .u8)))]], [(false, [((.sl 5 (.one (.int .u8))), 0), (I, 0), (I, 0)])]⟩
def an10 : An := ⟨fun _ => none,
  fun b => match b with
    | 0 => some ([.slot 3 I, .slot 4 I], false)
    | _ => none,
  fun _ => none⟩
def s10 (n : Nat) : SmF := ⟨sm10, fun x => N.spec_l1New n x⟩
def env10 (n : Nat) : List (FuncId × SmF) := []
theorem ev10 (n : Nat) (x : sm10.ins.D) : evFn (find tbl) (find (env10 n)) an10 n Try.f10 sm10 x = N.spec_l1New n x := by kernel_rfl
theorem ok10 (n : Nat) : FnOk Try.prog TT 10 (s10 n) := fn_native (an := an10) (n := n) Try.func10 rfl (by kernel_rfl) tblOk env_nil follows (ev10 n)
theorem body10 : HasBody Try.prog 10 := ⟨_, _, Try.func10, rfl, by kernel_rfl⟩

-- spec_l1Size
def sm12 : Sm := ⟨[.val false [(.sl 5 (.one (.int .u8)))], .val false [I]], [(false, [(I, 0)])]⟩
def an12 : An := ⟨fun _ => none,
  fun _ => none,
  fun _ => none⟩
def s12 (n : Nat) : SmF := ⟨sm12, fun x => N.spec_l1Size x.1 x.2⟩
def env12 (n : Nat) : List (FuncId × SmF) := []
theorem ev12 (n : Nat) (x : sm12.ins.D) : evFn (find tbl) (find (env12 n)) an12 n Try.f12 sm12 x = N.spec_l1Size x.1 x.2 := by kernel_rfl
theorem ok12 (n : Nat) : FnOk Try.prog TT 12 (s12 n) := fn_native (an := an12) (n := n) Try.func12 rfl (by kernel_rfl) tblOk env_nil follows (ev12 n)
theorem body12 : HasBody Try.prog 12 := ⟨_, _, Try.func12, rfl, by kernel_rfl⟩

-- spec_LinkNew
def sm19 : Sm := ⟨[], [(true, [((.sl 3 (.one I)), 2), (I, 0), (.bool, 0), (I, 0), (I, 0), (I, 0), ((.sl 3 (.one I)), 2), ((.sl 52 k1), 2)])]⟩
def an19 : An := ⟨fun _ => none,
  fun _ => none,
  fun _ => none⟩
def s19 (n : Nat) : SmF := ⟨sm19, fun x => N.spec_LinkNew⟩
def env19 (n : Nat) : List (FuncId × SmF) := []
theorem ev19 (n : Nat) (x : sm19.ins.D) : evFn (find tbl) (find (env19 n)) an19 n Try.f19 sm19 x = N.spec_LinkNew := by kernel_rfl
theorem ok19 (n : Nat) : FnOk Try.prog TT 19 (s19 n) := fn_native (an := an19) (n := n) Try.func19 rfl (by kernel_rfl) tblOk env_nil follows (ev19 n)
theorem body19 : HasBody Try.prog 19 := ⟨_, _, Try.func19, rfl, by kernel_rfl⟩

-- spec_l1Byte
def sm26 : Sm := ⟨[.box [((.sl 5 (.one (.int .u8))), 0), (I, 0), (I, 0)]], [(false, [(I, 0)])]⟩
def an26 : An := ⟨fun _ => none,
  fun _ => none,
  fun b => match b with
    | 12 => some ([.slot 3 I, .box 0 [some ((.sl 5 (.one (.int .u8))), 0), some (I, 0), some (I, 0)]], false)
    | _ => none⟩
def s26 (n : Nat) : SmF := ⟨sm26, fun x => N.spec_l1Byte x.1 x.2.1 x.2.2⟩
def env26 (n : Nat) : List (FuncId × SmF) := []
theorem ev26 (n : Nat) (x : sm26.ins.D) : evFn (find tbl) (find (env26 n)) an26 n Try.f26 sm26 x = N.spec_l1Byte x.1 x.2.1 x.2.2 := by kernel_rfl
theorem ok26 (n : Nat) : FnOk Try.prog TT 26 (s26 n) := fn_native (an := an26) (n := n) Try.func26 rfl (by kernel_rfl) tblOk env_nil follows (ev26 n)
theorem body26 : HasBody Try.prog 26 := ⟨_, _, Try.func26, rfl, by kernel_rfl⟩

-- spec_l1Below
def sm20 : Sm := ⟨[.box [((.sl 5 (.one (.int .u8))), 0), (I, 0), (I, 0)], .val false [I]], [(false, [(I, 0)])]⟩
def an20 : An := ⟨fun _ => none,
  fun _ => none,
  fun _ => none⟩
def s20 (n : Nat) : SmF := ⟨sm20, fun x => N.spec_l1Below x.1 x.2.1 x.2.2.1 x.2.2.2⟩
def env20 (n : Nat) : List (FuncId × SmF) := [(26, s26 n)]
theorem ev20 (n : Nat) (x : sm20.ins.D) : evFn (find tbl) (find (env20 n)) an20 n Try.f20 sm20 x = N.spec_l1Below x.1 x.2.1 x.2.2.1 x.2.2.2 := by kernel_rfl
theorem ok20 (n : Nat) : FnOk Try.prog TT 20 (s20 n) := fn_native (an := an20) (n := n) Try.func20 rfl (by kernel_rfl) tblOk (env_cons (ok26 n) body26 env_nil) follows (ev20 n)
theorem body20 : HasBody Try.prog 20 := ⟨_, _, Try.func20, rfl, by kernel_rfl⟩

-- spec_l10Copy
def sm27 : Sm := ⟨[.val true [(.sl 3 (.one I)), I, .bool, I, I, I, (.sl 3 (.one I)), (.sl 52 k1)]], [(true, [((.sl 3 (.one I)), 2), (I, 0), (.bool, 0), (I, 0), (I, 0), (I, 0), ((.sl 3 (.one I)), 2), ((.sl 52 k1), 2)])]⟩
def an27 : An := ⟨fun _ => none,
  fun _ => none,
  fun _ => none⟩
def s27 (n : Nat) : SmF := ⟨sm27, fun x => N.spec_l10Copy x.1 x.2.1 x.2.2.1 x.2.2.2.1 x.2.2.2.2.1 x.2.2.2.2.2.1 x.2.2.2.2.2.2.1 x.2.2.2.2.2.2.2⟩
def env27 (n : Nat) : List (FuncId × SmF) := []
theorem ev27 (n : Nat) (x : sm27.ins.D) : evFn (find tbl) (find (env27 n)) an27 n Try.f27 sm27 x = N.spec_l10Copy x.1 x.2.1 x.2.2.1 x.2.2.2.1 x.2.2.2.2.1 x.2.2.2.2.2.1 x.2.2.2.2.2.2.1 x.2.2.2.2.2.2.2 := by kernel_rfl
theorem ok27 (n : Nat) : FnOk Try.prog TT 27 (s27 n) := fn_native (an := an27) (n := n) Try.func27 rfl (by kernel_rfl) tblOk env_nil follows (ev27 n)
theorem body27 : HasBody Try.prog 27 := ⟨_, _, Try.func27, rfl, by kernel_rfl⟩

-- spec_l1In
def sm29 : Sm := ⟨[.val false [I], .val false [I], .val false [I]], [(false, [(.bool, 0)])]⟩
def an29 : An := ⟨fun _ => none,
  fun _ => none,
  fun _ => none⟩
def s29 (n : Nat) : SmF := ⟨sm29, fun x => N.spec_l1In x.1 x.2.1 x.2.2⟩
def env29 (n : Nat) : List (FuncId × SmF) := []
theorem ev29 (n : Nat) (x : sm29.ins.D) : evFn (find tbl) (find (env29 n)) an29 n Try.f29 sm29 x = N.spec_l1In x.1 x.2.1 x.2.2 := by kernel_rfl
theorem ok29 (n : Nat) : FnOk Try.prog TT 29 (s29 n) := fn_native (an := an29) (n := n) Try.func29 rfl (by kernel_rfl) tblOk env_nil follows (ev29 n)
theorem body29 : HasBody Try.prog 29 := ⟨_, _, Try.func29, rfl, by kernel_rfl⟩

-- spec_l10Whats
def sm32 : Sm := ⟨[.val false [(.sl 3 (.one I))]], [(false, [(.bool, 0)])]⟩
def an32 : An := ⟨fun _ => none,
  fun b => match b with
    | 0 => some ([.slot 3 I], true)
    | _ => none,
  fun _ => none⟩
def s32 (n : Nat) : SmF := ⟨sm32, fun x => N.spec_l10Whats n x⟩
def env32 (n : Nat) : List (FuncId × SmF) := [(29, s29 n)]
theorem ev32 (n : Nat) (x : sm32.ins.D) : evFn (find tbl) (find (env32 n)) an32 n Try.f32 sm32 x = N.spec_l10Whats n x := by kernel_rfl
theorem ok32 (n : Nat) : FnOk Try.prog TT 32 (s32 n) := fn_native (an := an32) (n := n) Try.func32 rfl (by kernel_rfl) tblOk (env_cons (ok29 n) body29 env_nil) follows (ev32 n)
theorem body32 : HasBody Try.prog 32 := ⟨_, _, Try.func32, rfl, by kernel_rfl⟩

-- spec_LinkOk
def sm28 : Sm := ⟨[.val true [(.sl 3 (.one I)), I, .bool, I, I, I, (.sl 3 (.one I)), (.sl 52 k1)]], [(false, [(.bool, 0)])]⟩
def an28 : An := ⟨fun _ => none,
  fun b => match b with
    | 0 => some ([.slot 3 I], true)
    | _ => none,
  fun _ => none⟩
def s28 (n : Nat) : SmF := ⟨sm28, fun x => N.spec_LinkOk n x.1 x.2.1 x.2.2.1 x.2.2.2.1 x.2.2.2.2.1 x.2.2.2.2.2.1 x.2.2.2.2.2.2.1 x.2.2.2.2.2.2.2⟩
def env28 (n : Nat) : List (FuncId × SmF) := [(29, s29 n), (32, s32 n)]
theorem ev28 (n : Nat) (x : sm28.ins.D) : evFn (find tbl) (find (env28 n)) an28 n Try.f28 sm28 x = N.spec_LinkOk n x.1 x.2.1 x.2.2.1 x.2.2.2.1 x.2.2.2.2.1 x.2.2.2.2.2.1 x.2.2.2.2.2.2.1 x.2.2.2.2.2.2.2 := by kernel_rfl
theorem ok28 (n : Nat) : FnOk Try.prog TT 28 (s28 n) := fn_native (an := an28) (n := n) Try.func28 rfl (by kernel_rfl) tblOk (env_cons (ok29 n) body29 (env_cons (ok32 n) body32 env_nil)) follows (ev28 n)
theorem body28 : HasBody Try.prog 28 := ⟨_, _, Try.func28, rfl, by kernel_rfl⟩

-- spec_Tell
def sm21 : Sm := ⟨[.val true [(.sl 3 (.one I)), I, .bool, I, I, I, (.sl 3 (.one I)), (.sl 52 k1)], .val false [I]], [(true, [((.sl 3 (.one I)), 2), (I, 0), (.bool, 0), (I, 0), (I, 0), (I, 0), ((.sl 3 (.one I)), 2), ((.sl 52 k1), 2)]), (false, [(.bool, 0)])]⟩
def an21 : An := ⟨fun _ => none,
  fun _ => none,
  fun _ => none⟩
def s21 (n : Nat) : SmF := ⟨sm21, fun x => N.spec_Tell n x.1 x.2.1 x.2.2.1 x.2.2.2.1 x.2.2.2.2.1 x.2.2.2.2.2.1 x.2.2.2.2.2.2.1 x.2.2.2.2.2.2.2.1 x.2.2.2.2.2.2.2.2⟩
def env21 (n : Nat) : List (FuncId × SmF) := [(27, s27 n), (28, s28 n), (29, s29 n)]
theorem ev21 (n : Nat) (x : sm21.ins.D) : evFn (find tbl) (find (env21 n)) an21 n Try.f21 sm21 x = N.spec_Tell n x.1 x.2.1 x.2.2.1 x.2.2.2.1 x.2.2.2.2.1 x.2.2.2.2.2.1 x.2.2.2.2.2.2.1 x.2.2.2.2.2.2.2.1 x.2.2.2.2.2.2.2.2 := by kernel_rfl
theorem ok21 (n : Nat) : FnOk Try.prog TT 21 (s21 n) := fn_native (an := an21) (n := n) Try.func21 rfl (by kernel_rfl) tblOk (env_cons (ok27 n) body27 (env_cons (ok28 n) body28 (env_cons (ok29 n) body29 env_nil))) follows (ev21 n)
theorem body21 : HasBody Try.prog 21 := ⟨_, _, Try.func21, rfl, by kernel_rfl⟩

-- spec_l10Says
def sm33 : Sm := ⟨[.box [((.sl 3 (.one I)), 2), (I, 0), (.bool, 0), (I, 0), (I, 0), (I, 0), ((.sl 3 (.one I)), 2), ((.sl 52 k1), 2)], .val true [.bool, I, I]], []⟩
def an33 : An := ⟨fun _ => none,
  fun _ => none,
  fun _ => none⟩
def s33 (n : Nat) : SmF := ⟨sm33, fun x => N.spec_l10Says x.1 x.2.1 x.2.2.1 x.2.2.2.1 x.2.2.2.2.1 x.2.2.2.2.2.1 x.2.2.2.2.2.2.1 x.2.2.2.2.2.2.2.1 x.2.2.2.2.2.2.2.2.1 x.2.2.2.2.2.2.2.2.2.1 x.2.2.2.2.2.2.2.2.2.2⟩
def env33 (n : Nat) : List (FuncId × SmF) := []
theorem ev33 (n : Nat) (x : sm33.ins.D) : evFn (find tbl) (find (env33 n)) an33 n Try.f33 sm33 x = N.spec_l10Says x.1 x.2.1 x.2.2.1 x.2.2.2.1 x.2.2.2.2.1 x.2.2.2.2.2.1 x.2.2.2.2.2.2.1 x.2.2.2.2.2.2.2.1 x.2.2.2.2.2.2.2.2.1 x.2.2.2.2.2.2.2.2.2.1 x.2.2.2.2.2.2.2.2.2.2 := by kernel_rfl
theorem ok33 (n : Nat) : FnOk Try.prog TT 33 (s33 n) := fn_native (an := an33) (n := n) Try.func33 rfl (by kernel_rfl) tblOk env_nil follows (ev33 n)
theorem body33 : HasBody Try.prog 33 := ⟨_, _, Try.func33, rfl, by kernel_rfl⟩

-- spec_l10Tick
def sm30 : Sm := ⟨[.box [((.sl 3 (.one I)), 2), (I, 0), (.bool, 0), (I, 0), (I, 0), (I, 0), ((.sl 3 (.one I)), 2), ((.sl 52 k1), 2)]], []⟩
def an30 : An := ⟨fun _ => none,
  fun _ => none,
  fun b => match b with
    | 3 => some ([.box 0 [some ((.sl 3 (.one I)), 2), some (I, 0), some (.bool, 0), some (I, 0), some (I, 0), some (I, 0), some ((.sl 3 (.one I)), 2), some ((.sl 52 k1), 2)]], false)
    | _ => none⟩
def s30 (n : Nat) : SmF := ⟨sm30, fun x => N.spec_l10Tick x.1 x.2.1 x.2.2.1 x.2.2.2.1 x.2.2.2.2.1 x.2.2.2.2.2.1 x.2.2.2.2.2.2.1 x.2.2.2.2.2.2.2⟩
def env30 (n : Nat) : List (FuncId × SmF) := [(33, s33 n)]
theorem ev30 (n : Nat) (x : sm30.ins.D) : evFn (find tbl) (find (env30 n)) an30 n Try.f30 sm30 x = N.spec_l10Tick x.1 x.2.1 x.2.2.1 x.2.2.2.1 x.2.2.2.2.1 x.2.2.2.2.2.1 x.2.2.2.2.2.2.1 x.2.2.2.2.2.2.2 := by kernel_rfl
theorem ok30 (n : Nat) : FnOk Try.prog TT 30 (s30 n) := fn_native (an := an30) (n := n) Try.func30 rfl (by kernel_rfl) tblOk (env_cons (ok33 n) body33 env_nil) follows (ev30 n)
theorem body30 : HasBody Try.prog 30 := ⟨_, _, Try.func30, rfl, by kernel_rfl⟩

-- spec_l10Hear
def sm31 : Sm := ⟨[.box [((.sl 3 (.one I)), 2), (I, 0), (.bool, 0), (I, 0), (I, 0), (I, 0), ((.sl 3 (.one I)), 2), ((.sl 52 k1), 2)], .val true [.bool, I, I]], []⟩
def an31 : An := ⟨fun _ => none,
  fun _ => none,
  fun b => match b with
    | 18 => some ([.box 0 [some ((.sl 3 (.one I)), 2), some (I, 0), some (.bool, 0), some (I, 0), some (I, 0), some (I, 0), some ((.sl 3 (.one I)), 2), some ((.sl 52 k1), 2)]], false)
    | _ => none⟩
def s31 (n : Nat) : SmF := ⟨sm31, fun x => N.spec_l10Hear x.1 x.2.1 x.2.2.1 x.2.2.2.1 x.2.2.2.2.1 x.2.2.2.2.2.1 x.2.2.2.2.2.2.1 x.2.2.2.2.2.2.2.1 x.2.2.2.2.2.2.2.2.1 x.2.2.2.2.2.2.2.2.2.1 x.2.2.2.2.2.2.2.2.2.2⟩
def env31 (n : Nat) : List (FuncId × SmF) := [(33, s33 n)]
theorem ev31 (n : Nat) (x : sm31.ins.D) : evFn (find tbl) (find (env31 n)) an31 n Try.f31 sm31 x = N.spec_l10Hear x.1 x.2.1 x.2.2.1 x.2.2.2.1 x.2.2.2.2.1 x.2.2.2.2.2.1 x.2.2.2.2.2.2.1 x.2.2.2.2.2.2.2.1 x.2.2.2.2.2.2.2.2.1 x.2.2.2.2.2.2.2.2.2.1 x.2.2.2.2.2.2.2.2.2.2 := by kernel_rfl
theorem ok31 (n : Nat) : FnOk Try.prog TT 31 (s31 n) := fn_native (an := an31) (n := n) Try.func31 rfl (by kernel_rfl) tblOk (env_cons (ok33 n) body33 env_nil) follows (ev31 n)
theorem body31 : HasBody Try.prog 31 := ⟨_, _, Try.func31, rfl, by kernel_rfl⟩

-- spec_l10Do
def sm22 : Sm := ⟨[.box [((.sl 3 (.one I)), 2), (I, 0), (.bool, 0), (I, 0), (I, 0), (I, 0), ((.sl 3 (.one I)), 2), ((.sl 52 k1), 2)], .val false [I], .val false [I]], [(false, [(.bool, 0)])]⟩
def an22 : An := ⟨fun _ => none,
  fun _ => none,
  fun b => match b with
    | 36 => some ([.box 0 [some ((.sl 3 (.one I)), 2), some (I, 0), some (.bool, 0), some (I, 0), some (I, 0), some (I, 0), some ((.sl 3 (.one I)), 2), some ((.sl 52 k1), 2)]], false)
    | _ => none⟩
def s22 (n : Nat) : SmF := ⟨sm22, fun x => N.spec_l10Do x.1 x.2.1 x.2.2.1 x.2.2.2.1 x.2.2.2.2.1 x.2.2.2.2.2.1 x.2.2.2.2.2.2.1 x.2.2.2.2.2.2.2.1 x.2.2.2.2.2.2.2.2.1 x.2.2.2.2.2.2.2.2.2⟩
def env22 (n : Nat) : List (FuncId × SmF) := [(29, s29 n), (30, s30 n), (31, s31 n)]
theorem ev22 (n : Nat) (x : sm22.ins.D) : evFn (find tbl) (find (env22 n)) an22 n Try.f22 sm22 x = N.spec_l10Do x.1 x.2.1 x.2.2.1 x.2.2.2.1 x.2.2.2.2.1 x.2.2.2.2.2.1 x.2.2.2.2.2.2.1 x.2.2.2.2.2.2.2.1 x.2.2.2.2.2.2.2.2.1 x.2.2.2.2.2.2.2.2.2 := by kernel_rfl
theorem ok22 (n : Nat) : FnOk Try.prog TT 22 (s22 n) := fn_native (an := an22) (n := n) Try.func22 rfl (by kernel_rfl) tblOk (env_cons (ok29 n) body29 (env_cons (ok30 n) body30 (env_cons (ok31 n) body31 env_nil))) follows (ev22 n)
theorem body22 : HasBody Try.prog 22 := ⟨_, _, Try.func22, rfl, by kernel_rfl⟩

-- spec_l10Draw
def sm11 : Sm := ⟨[.box [((.sl 5 (.one (.int .u8))), 0), (I, 0), (I, 0)], .val false [I]], [(true, [((.sl 3 (.one I)), 2), (I, 0), (.bool, 0), (I, 0), (I, 0), (I, 0), ((.sl 3 (.one I)), 2), ((.sl 52 k1), 2)]), (false, [((.sl 3 (.one I)), 2)])]⟩
def an11 : An := ⟨fun _ => none,
  fun b => match b with
    | 0 => some ([.own 7 3 (.one I) 2 false, .slot 8 I, .box 0 [some ((.sl 5 (.one (.int .u8))), 0), some (I, 0), some (I, 0)], .box 6 [some ((.sl 3 (.one I)), 2), some (I, 0), some (.bool, 0), some (I, 0), some (I, 0), some (I, 0), some ((.sl 3 (.one I)), 2), some ((.sl 52 k1), 2)]], false)
    | _ => none,
  fun b => match b with
    | 7 => some ([.own 7 3 (.one I) 2 false, .box 0 [some ((.sl 5 (.one (.int .u8))), 0), some (I, 0), some (I, 0)], .box 6 [some ((.sl 3 (.one I)), 2), some (I, 0), some (.bool, 0), some (I, 0), some (I, 0), some (I, 0), some ((.sl 3 (.one I)), 2), some ((.sl 52 k1), 2)]], false)
    | 27 => some ([.slot 26 .bool], false)
    | 48 => some ([.slot 43 .bool], false)
    | _ => none⟩
def s11 (n : Nat) : SmF := ⟨sm11, fun x => N.spec_l10Draw n x.1 x.2.1 x.2.2.1 x.2.2.2⟩
def env11 (n : Nat) : List (FuncId × SmF) := [(19, s19 n), (20, s20 n), (21, s21 n), (22, s22 n)]
theorem ev11 (n : Nat) (x : sm11.ins.D) : evFn (find tbl) (find (env11 n)) an11 n Try.f11 sm11 x = N.spec_l10Draw n x.1 x.2.1 x.2.2.1 x.2.2.2 := by kernel_rfl
theorem ok11 (n : Nat) : FnOk Try.prog TT 11 (s11 n) := fn_native (an := an11) (n := n) Try.func11 rfl (by kernel_rfl) tblOk (env_cons (ok19 n) body19 (env_cons (ok20 n) body20 (env_cons (ok21 n) body21 (env_cons (ok22 n) body22 env_nil)))) follows (ev11 n)
theorem body11 : HasBody Try.prog 11 := ⟨_, _, Try.func11, rfl, by kernel_rfl⟩

-- spec_DrawLink
def sm5 : Sm := ⟨[.val false [(.sl 5 (.one (.int .u8)))]], [(true, [((.sl 3 (.one I)), 2), (I, 0), (.bool, 0), (I, 0), (I, 0), (I, 0), ((.sl 3 (.one I)), 2), ((.sl 52 k1), 2)]), (false, [((.sl 3 (.one I)), 2)])]⟩
def an5 : An := ⟨fun _ => none,
  fun _ => none,
  fun _ => none⟩
def s5 (n : Nat) : SmF := ⟨sm5, fun x => N.spec_DrawLink n x⟩
def env5 (n : Nat) : List (FuncId × SmF) := [(10, s10 n), (11, s11 n), (12, s12 n)]
theorem ev5 (n : Nat) (x : sm5.ins.D) : evFn (find tbl) (find (env5 n)) an5 n Try.f5 sm5 x = N.spec_DrawLink n x := by kernel_rfl
theorem ok5 (n : Nat) : FnOk Try.prog TT 5 (s5 n) := fn_native (an := an5) (n := n) Try.func5 rfl (by kernel_rfl) tblOk (env_cons (ok10 n) body10 (env_cons (ok11 n) body11 (env_cons (ok12 n) body12 env_nil))) follows (ev5 n)
theorem body5 : HasBody Try.prog 5 := ⟨_, _, Try.func5, rfl, by kernel_rfl⟩

-- impl_copyInts
def sm23 : Sm := ⟨[.val false [(.sl 3 (.one I))]], [(false, [((.sl 3 (.one I)), 2)])]⟩
def an23 : An := ⟨fun _ => none,
  fun _ => none,
  fun _ => none⟩
def s23 (n : Nat) : SmF := ⟨sm23, fun x => N.impl_copyInts x⟩
def env23 (n : Nat) : List (FuncId × SmF) := []
theorem ev23 (n : Nat) (x : sm23.ins.D) : evFn (find tbl) (find (env23 n)) an23 n Try.f23 sm23 x = N.impl_copyInts x := by kernel_rfl
theorem ok23 (n : Nat) : FnOk Try.prog TT 23 (s23 n) := fn_native (an := an23) (n := n) Try.func23 rfl (by kernel_rfl) tblOk env_nil follows (ev23 n)
theorem body23 : HasBody Try.prog 23 := ⟨_, _, Try.func23, rfl, by kernel_rfl⟩

-- impl_copyLink
def sm13 : Sm := ⟨[.val true [(.sl 3 (.one I)), I, .bool, I, I, I, (.sl 3 (.one I)), (.sl 52 k1)]], [(true, [((.sl 3 (.one I)), 2), (I, 0), (.bool, 0), (I, 0), (I, 0), (I, 0), ((.sl 3 (.one I)), 2), ((.sl 52 k1), 2)])]⟩
def an13 : An := ⟨fun _ => none,
  fun _ => none,
  fun _ => none⟩
def s13 (n : Nat) : SmF := ⟨sm13, fun x => N.impl_copyLink x.1 x.2.1 x.2.2.1 x.2.2.2.1 x.2.2.2.2.1 x.2.2.2.2.2.1 x.2.2.2.2.2.2.1 x.2.2.2.2.2.2.2⟩
def env13 (n : Nat) : List (FuncId × SmF) := [(23, s23 n)]
theorem ev13 (n : Nat) (x : sm13.ins.D) : evFn (find tbl) (find (env13 n)) an13 n Try.f13 sm13 x = N.impl_copyLink x.1 x.2.1 x.2.2.1 x.2.2.2.1 x.2.2.2.2.1 x.2.2.2.2.2.1 x.2.2.2.2.2.2.1 x.2.2.2.2.2.2.2 := by kernel_rfl
theorem ok13 (n : Nat) : FnOk Try.prog TT 13 (s13 n) := fn_native (an := an13) (n := n) Try.func13 rfl (by kernel_rfl) tblOk (env_cons (ok23 n) body23 env_nil) follows (ev13 n)
theorem body13 : HasBody Try.prog 13 := ⟨_, _, Try.func13, rfl, by kernel_rfl⟩

-- impl_in
def sm18 : Sm := ⟨[.val false [I], .val false [I], .val false [I]], [(false, [(.bool, 0)])]⟩
def an18 : An := ⟨fun _ => none,
  fun _ => none,
  fun _ => none⟩
def s18 (n : Nat) : SmF := ⟨sm18, fun x => N.impl_in x.1 x.2.1 x.2.2⟩
def env18 (n : Nat) : List (FuncId × SmF) := []
theorem ev18 (n : Nat) (x : sm18.ins.D) : evFn (find tbl) (find (env18 n)) an18 n Try.f18 sm18 x = N.impl_in x.1 x.2.1 x.2.2 := by kernel_rfl
theorem ok18 (n : Nat) : FnOk Try.prog TT 18 (s18 n) := fn_native (an := an18) (n := n) Try.func18 rfl (by kernel_rfl) tblOk env_nil follows (ev18 n)
theorem body18 : HasBody Try.prog 18 := ⟨_, _, Try.func18, rfl, by kernel_rfl⟩

-- impl_whatsOk
def sm16 : Sm := ⟨[.val false [(.sl 3 (.one I))]], [(false, [(.bool, 0)])]⟩
def an16 : An := ⟨fun _ => none,
  fun b => match b with
    | 0 => some ([.slot 7 I], true)
    | _ => none,
  fun _ => none⟩
def s16 (n : Nat) : SmF := ⟨sm16, fun x => N.impl_whatsOk n x⟩
def env16 (n : Nat) : List (FuncId × SmF) := [(18, s18 n)]
theorem ev16 (n : Nat) (x : sm16.ins.D) : evFn (find tbl) (find (env16 n)) an16 n Try.f16 sm16 x = N.impl_whatsOk n x := by kernel_rfl
theorem ok16 (n : Nat) : FnOk Try.prog TT 16 (s16 n) := fn_native (an := an16) (n := n) Try.func16 rfl (by kernel_rfl) tblOk (env_cons (ok18 n) body18 env_nil) follows (ev16 n)
theorem body16 : HasBody Try.prog 16 := ⟨_, _, Try.func16, rfl, by kernel_rfl⟩

-- impl_airOk
def sm17 : Sm := ⟨[.val false [(.sl 52 k1)]], [(false, [(.bool, 0)])]⟩
def an17 : An := ⟨fun _ => none,
  fun b => match b with
    | 0 => some ([.slot 7 I], true)
    | _ => none,
  fun _ => none⟩
def s17 (n : Nat) : SmF := ⟨sm17, fun x => N.impl_airOk n x⟩
def env17 (n : Nat) : List (FuncId × SmF) := [(18, s18 n)]
theorem ev17 (n : Nat) (x : sm17.ins.D) : evFn (find tbl) (find (env17 n)) an17 n Try.f17 sm17 x = N.impl_airOk n x := by kernel_rfl
theorem ok17 (n : Nat) : FnOk Try.prog TT 17 (s17 n) := fn_native (an := an17) (n := n) Try.func17 rfl (by kernel_rfl) tblOk (env_cons (ok18 n) body18 env_nil) follows (ev17 n)
theorem body17 : HasBody Try.prog 17 := ⟨_, _, Try.func17, rfl, by kernel_rfl⟩

-- impl_LinkOk
def sm8 : Sm := ⟨[.val true [(.sl 3 (.one I)), I, .bool, I, I, I, (.sl 3 (.one I)), (.sl 52 k1)]], [(false, [(.bool, 0)])]⟩
def an8 : An := ⟨fun _ => none,
  fun _ => none,
  fun _ => none⟩
def s8 (n : Nat) : SmF := ⟨sm8, fun x => N.impl_LinkOk n x.1 x.2.1 x.2.2.1 x.2.2.2.1 x.2.2.2.2.1 x.2.2.2.2.2.1 x.2.2.2.2.2.2.1 x.2.2.2.2.2.2.2⟩
def env8 (n : Nat) : List (FuncId × SmF) := [(16, s16 n), (17, s17 n), (18, s18 n)]
theorem ev8 (n : Nat) (x : sm8.ins.D) : evFn (find tbl) (find (env8 n)) an8 n Try.f8 sm8 x = N.impl_LinkOk n x.1 x.2.1 x.2.2.1 x.2.2.2.1 x.2.2.2.2.1 x.2.2.2.2.2.1 x.2.2.2.2.2.2.1 x.2.2.2.2.2.2.2 := by kernel_rfl
theorem ok8 (n : Nat) : FnOk Try.prog TT 8 (s8 n) := fn_native (an := an8) (n := n) Try.func8 rfl (by kernel_rfl) tblOk (env_cons (ok16 n) body16 (env_cons (ok17 n) body17 (env_cons (ok18 n) body18 env_nil))) follows (ev8 n)
theorem body8 : HasBody Try.prog 8 := ⟨_, _, Try.func8, rfl, by kernel_rfl⟩

-- impl_Link_say
def sm24 : Sm := ⟨[.box [((.sl 3 (.one I)), 2), (I, 0), (.bool, 0), (I, 0), (I, 0), (I, 0), ((.sl 3 (.one I)), 2), ((.sl 52 k1), 2)], .val true [.bool, I, I]], []⟩
def an24 : An := ⟨fun _ => none,
  fun _ => none,
  fun _ => none⟩
def s24 (n : Nat) : SmF := ⟨sm24, fun x => N.impl_Link_say x.1 x.2.1 x.2.2.1 x.2.2.2.1 x.2.2.2.2.1 x.2.2.2.2.2.1 x.2.2.2.2.2.2.1 x.2.2.2.2.2.2.2.1 x.2.2.2.2.2.2.2.2.1 x.2.2.2.2.2.2.2.2.2.1 x.2.2.2.2.2.2.2.2.2.2⟩
def env24 (n : Nat) : List (FuncId × SmF) := []
theorem ev24 (n : Nat) (x : sm24.ins.D) : evFn (find tbl) (find (env24 n)) an24 n Try.f24 sm24 x = N.impl_Link_say x.1 x.2.1 x.2.2.1 x.2.2.2.1 x.2.2.2.2.1 x.2.2.2.2.2.1 x.2.2.2.2.2.2.1 x.2.2.2.2.2.2.2.1 x.2.2.2.2.2.2.2.2.1 x.2.2.2.2.2.2.2.2.2.1 x.2.2.2.2.2.2.2.2.2.2 := by kernel_rfl
theorem ok24 (n : Nat) : FnOk Try.prog TT 24 (s24 n) := fn_native (an := an24) (n := n) Try.func24 rfl (by kernel_rfl) tblOk env_nil follows (ev24 n)
theorem body24 : HasBody Try.prog 24 := ⟨_, _, Try.func24, rfl, by kernel_rfl⟩

-- impl_Link_tick
def sm14 : Sm := ⟨[.box [((.sl 3 (.one I)), 2), (I, 0), (.bool, 0), (I, 0), (I, 0), (I, 0), ((.sl 3 (.one I)), 2), ((.sl 52 k1), 2)]], []⟩
def an14 : An := ⟨fun _ => none,
  fun _ => none,
  fun b => match b with
    | 3 => some ([.box 0 [some ((.sl 3 (.one I)), 2), some (I, 0), some (.bool, 0), some (I, 0), some (I, 0), some (I, 0), some ((.sl 3 (.one I)), 2), some ((.sl 52 k1), 2)]], false)
    | 4 => some ([.box 0 [some ((.sl 3 (.one I)), 2), some (I, 0), some (.bool, 0), some (I, 0), some (I, 0), some (I, 0), some ((.sl 3 (.one I)), 2), some ((.sl 52 k1), 2)]], true)
    | _ => none⟩
def s14 (n : Nat) : SmF := ⟨sm14, fun x => N.impl_Link_tick x.1 x.2.1 x.2.2.1 x.2.2.2.1 x.2.2.2.2.1 x.2.2.2.2.2.1 x.2.2.2.2.2.2.1 x.2.2.2.2.2.2.2⟩
def env14 (n : Nat) : List (FuncId × SmF) := [(24, s24 n)]
theorem ev14 (n : Nat) (x : sm14.ins.D) : evFn (find tbl) (find (env14 n)) an14 n Try.f14 sm14 x = N.impl_Link_tick x.1 x.2.1 x.2.2.1 x.2.2.2.1 x.2.2.2.2.1 x.2.2.2.2.2.1 x.2.2.2.2.2.2.1 x.2.2.2.2.2.2.2 := by kernel_rfl
theorem ok14 (n : Nat) : FnOk Try.prog TT 14 (s14 n) := fn_native (an := an14) (n := n) Try.func14 rfl (by kernel_rfl) tblOk (env_cons (ok24 n) body24 env_nil) follows (ev14 n)
theorem body14 : HasBody Try.prog 14 := ⟨_, _, Try.func14, rfl, by kernel_rfl⟩

-- impl_Link_drop
def sm25 : Sm := ⟨[.box [((.sl 3 (.one I)), 2), (I, 0), (.bool, 0), (I, 0), (I, 0), (I, 0), ((.sl 3 (.one I)), 2), ((.sl 52 k1), 2)], .val false [I]], [(true, [(.bool, 0), (I, 0), (I, 0)])]⟩
def an25 : An := ⟨fun _ => none,
  fun _ => none,
  fun _ => none⟩
def s25 (n : Nat) : SmF := ⟨sm25, fun x => N.impl_Link_drop x.1 x.2.1 x.2.2.1 x.2.2.2.1 x.2.2.2.2.1 x.2.2.2.2.2.1 x.2.2.2.2.2.2.1 x.2.2.2.2.2.2.2.1 x.2.2.2.2.2.2.2.2⟩
def env25 (n : Nat) : List (FuncId × SmF) := []
theorem ev25 (n : Nat) (x : sm25.ins.D) : evFn (find tbl) (find (env25 n)) an25 n Try.f25 sm25 x = N.impl_Link_drop x.1 x.2.1 x.2.2.1 x.2.2.2.1 x.2.2.2.2.1 x.2.2.2.2.2.1 x.2.2.2.2.2.2.1 x.2.2.2.2.2.2.2.1 x.2.2.2.2.2.2.2.2 := by kernel_rfl
theorem ok25 (n : Nat) : FnOk Try.prog TT 25 (s25 n) := fn_native (an := an25) (n := n) Try.func25 rfl (by kernel_rfl) tblOk env_nil follows (ev25 n)
theorem body25 : HasBody Try.prog 25 := ⟨_, _, Try.func25, rfl, by kernel_rfl⟩

-- impl_Link_hear
def sm15 : Sm := ⟨[.box [((.sl 3 (.one I)), 2), (I, 0), (.bool, 0), (I, 0), (I, 0), (I, 0), ((.sl 3 (.one I)), 2), ((.sl 52 k1), 2)], .val false [I]], []⟩
def an15 : An := ⟨fun _ => none,
  fun _ => none,
  fun b => match b with
    | 18 => some ([.box 0 [some ((.sl 3 (.one I)), 2), some (I, 0), some (.bool, 0), some (I, 0), some (I, 0), some (I, 0), some ((.sl 3 (.one I)), 2), some ((.sl 52 k1), 2)]], false)
    | _ => none⟩
def s15 (n : Nat) : SmF := ⟨sm15, fun x => N.impl_Link_hear x.1 x.2.1 x.2.2.1 x.2.2.2.1 x.2.2.2.2.1 x.2.2.2.2.2.1 x.2.2.2.2.2.2.1 x.2.2.2.2.2.2.2.1 x.2.2.2.2.2.2.2.2⟩
def env15 (n : Nat) : List (FuncId × SmF) := [(23, s23 n), (24, s24 n), (25, s25 n)]
theorem ev15 (n : Nat) (x : sm15.ins.D) : evFn (find tbl) (find (env15 n)) an15 n Try.f15 sm15 x = N.impl_Link_hear x.1 x.2.1 x.2.2.1 x.2.2.2.1 x.2.2.2.2.1 x.2.2.2.2.2.1 x.2.2.2.2.2.2.1 x.2.2.2.2.2.2.2.1 x.2.2.2.2.2.2.2.2 := by kernel_rfl
theorem ok15 (n : Nat) : FnOk Try.prog TT 15 (s15 n) := fn_native (an := an15) (n := n) Try.func15 rfl (by kernel_rfl) tblOk (env_cons (ok23 n) body23 (env_cons (ok24 n) body24 (env_cons (ok25 n) body25 env_nil))) follows (ev15 n)
theorem body15 : HasBody Try.prog 15 := ⟨_, _, Try.func15, rfl, by kernel_rfl⟩

-- impl_Calm
def sm6 : Sm := ⟨[.val true [(.sl 3 (.one I)), I, .bool, I, I, I, (.sl 3 (.one I)), (.sl 52 k1)]], [(true, [((.sl 3 (.one I)), 2), (I, 0), (.bool, 0), (I, 0), (I, 0), (I, 0), ((.sl 3 (.one I)), 2), ((.sl 52 k1), 2)])]⟩
def an6 : An := ⟨fun _ => none,
  fun b => match b with
    | 0 => some ([.slot 4 I, .box 3 [some ((.sl 3 (.one I)), 2), some (I, 0), some (.bool, 0), some (I, 0), some (I, 0), some (I, 0), some ((.sl 3 (.one I)), 2), some ((.sl 52 k1), 2)]], false)
    | 2 => some ([.slot 5 I, .box 3 [some ((.sl 3 (.one I)), 2), some (I, 0), some (.bool, 0), some (I, 0), some (I, 0), some (I, 0), some ((.sl 3 (.one I)), 2), some ((.sl 52 k1), 2)]], false)
    | _ => none,
  fun _ => none⟩
def s6 (n : Nat) : SmF := ⟨sm6, fun x => N.impl_Calm n x.1 x.2.1 x.2.2.1 x.2.2.2.1 x.2.2.2.2.1 x.2.2.2.2.2.1 x.2.2.2.2.2.2.1 x.2.2.2.2.2.2.2⟩
def env6 (n : Nat) : List (FuncId × SmF) := [(8, s8 n), (13, s13 n), (14, s14 n), (15, s15 n)]
theorem ev6 (n : Nat) (x : sm6.ins.D) : evFn (find tbl) (find (env6 n)) an6 n Try.f6 sm6 x = N.impl_Calm n x.1 x.2.1 x.2.2.1 x.2.2.2.1 x.2.2.2.2.1 x.2.2.2.2.2.1 x.2.2.2.2.2.2.1 x.2.2.2.2.2.2.2 := by kernel_rfl
theorem ok6 (n : Nat) : FnOk Try.prog TT 6 (s6 n) := fn_native (an := an6) (n := n) Try.func6 rfl (by kernel_rfl) tblOk (env_cons (ok8 n) body8 (env_cons (ok13 n) body13 (env_cons (ok14 n) body14 (env_cons (ok15 n) body15 env_nil)))) follows (ev6 n)
theorem body6 : HasBody Try.prog 6 := ⟨_, _, Try.func6, rfl, by kernel_rfl⟩

-- laws_sameInts
def sm7 : Sm := ⟨[.val false [(.sl 3 (.one I))], .val false [(.sl 3 (.one I))]], [(false, [(.bool, 0)])]⟩
def an7 : An := ⟨fun _ => none,
  fun b => match b with
    | 0 => some ([.slot 5 I], true)
    | _ => none,
  fun _ => none⟩
def s7 (n : Nat) : SmF := ⟨sm7, fun x => N.laws_sameInts n x.1 x.2⟩
def env7 (n : Nat) : List (FuncId × SmF) := []
theorem ev7 (n : Nat) (x : sm7.ins.D) : evFn (find tbl) (find (env7 n)) an7 n Try.f7 sm7 x = N.laws_sameInts n x.1 x.2 := by kernel_rfl
theorem ok7 (n : Nat) : FnOk Try.prog TT 7 (s7 n) := fn_native (an := an7) (n := n) Try.func7 rfl (by kernel_rfl) tblOk env_nil follows (ev7 n)
theorem body7 : HasBody Try.prog 7 := ⟨_, _, Try.func7, rfl, by kernel_rfl⟩

-- impl_Tell
def sm9 : Sm := ⟨[.val true [(.sl 3 (.one I)), I, .bool, I, I, I, (.sl 3 (.one I)), (.sl 52 k1)], .val false [I]], [(true, [((.sl 3 (.one I)), 2), (I, 0), (.bool, 0), (I, 0), (I, 0), (I, 0), ((.sl 3 (.one I)), 2), ((.sl 52 k1), 2)]), (false, [(.bool, 0)])]⟩
def an9 : An := ⟨fun _ => none,
  fun _ => none,
  fun _ => none⟩
def s9 (n : Nat) : SmF := ⟨sm9, fun x => N.impl_Tell n x.1 x.2.1 x.2.2.1 x.2.2.2.1 x.2.2.2.2.1 x.2.2.2.2.2.1 x.2.2.2.2.2.2.1 x.2.2.2.2.2.2.2.1 x.2.2.2.2.2.2.2.2⟩
def env9 (n : Nat) : List (FuncId × SmF) := [(8, s8 n), (13, s13 n), (18, s18 n)]
theorem ev9 (n : Nat) (x : sm9.ins.D) : evFn (find tbl) (find (env9 n)) an9 n Try.f9 sm9 x = N.impl_Tell n x.1 x.2.1 x.2.2.1 x.2.2.2.1 x.2.2.2.2.1 x.2.2.2.2.2.1 x.2.2.2.2.2.2.1 x.2.2.2.2.2.2.2.1 x.2.2.2.2.2.2.2.2 := by kernel_rfl
theorem ok9 (n : Nat) : FnOk Try.prog TT 9 (s9 n) := fn_native (an := an9) (n := n) Try.func9 rfl (by kernel_rfl) tblOk (env_cons (ok8 n) body8 (env_cons (ok13 n) body13 (env_cons (ok18 n) body18 env_nil))) follows (ev9 n)
theorem body9 : HasBody Try.prog 9 := ⟨_, _, Try.func9, rfl, by kernel_rfl⟩

-- laws_FnCalm
def sm3 : Sm := ⟨[.val false [(.sl 5 (.one (.int .u8)))]], [(false, [(.bool, 0)])]⟩
def an3 : An := ⟨fun _ => none,
  fun _ => none,
  fun _ => none⟩
def s3 (n : Nat) : SmF := ⟨sm3, fun x => N.laws_FnCalm n x⟩
def env3 (n : Nat) : List (FuncId × SmF) := [(4, s4 n), (5, s5 n), (6, s6 n), (7, s7 n), (8, s8 n), (9, s9 n)]
theorem ev3 (n : Nat) (x : sm3.ins.D) : evFn (find tbl) (find (env3 n)) an3 n Try.f3 sm3 x = N.laws_FnCalm n x := by kernel_rfl
theorem ok3 (n : Nat) : FnOk Try.prog TT 3 (s3 n) := fn_native (an := an3) (n := n) Try.func3 rfl (by kernel_rfl) tblOk (env_cons (ok4 n) body4 (env_cons (ok5 n) body5 (env_cons (ok6 n) body6 (env_cons (ok7 n) body7 (env_cons (ok8 n) body8 (env_cons (ok9 n) body9 env_nil)))))) follows (ev3 n)
theorem body3 : HasBody Try.prog 3 := ⟨_, _, Try.func3, rfl, by kernel_rfl⟩
end Go.Proofs.Ytafobglpmhfcgaa.Ev
