/- Tables of types; summaries of the functions. Conditions: none. -/
import Derived.Test.YtjbfgbgibmebfaaLib4
import Derived.Test.YtjbfgbgibmebfaaFnLinkNat
import Derived.Test.YtjbfgbgibmebfaaProg
import Derived.KernelRfl
namespace Go.Proofs.Ytjbfgbgibmebfaa.Ev
open Go Go.Ev Go.Proofs
set_option linter.unusedVariables false
set_option maxRecDepth 100000

abbrev I : L := .int .i64
/-- Package-level variables that are looked at. -/
abbrev TT : List (String × Array Value) := []
def k0 : Ls := (.cons .str (.one (.int .u64)))
def k1 : Ls := (.cons I (.one I))
def k2 : Ls := (.cons .str (.one (.int .u8)))
def k3 : Ls := (.cons I (.cons I (.one I)))
def k4 : Ls := (.cons .bool (.cons I (.one I)))
def k5 : Ls := (.cons I (.cons I (.cons .bool (.one (.int .u8)))))
def k6 : Ls := (.cons I (.cons I (.cons I (.one I))))
def k7 : Ls := (.cons I (.cons I (.cons I (.cons .bool (.one I)))))
def k8 : Ls := (.cons I (.cons I (.one (.sl 3 (.one I)))))
def k9 : Ls := (.cons I (.cons I (.one (.sl 144 k3))))
def k10 : Ls := (.cons I (.cons I (.one (.sl 270 k3))))
def k11 : Ls := (.cons (.sl 5 (.one (.int .u8))) (.cons I (.one I)))
def k12 : Ls := (.cons I (.cons I (.cons (.sl 236 k1) (.cons (.sl 97 k3) (.one I)))))
def k13 : Ls := (.cons I (.cons I (.cons (.sl 3 (.one I)) (.cons (.sl 118 k7) (.one (.sl 3 (.one I)))))))
def k14 : Ls := (.cons (.sl 3 (.one I)) (.cons I (.cons .bool (.cons I (.cons I (.cons I (.cons (.sl 3 (.one I)) (.one (.sl 201 k4)))))))))
def k15 : Ls := (.cons (.sl 3 (.one I)) (.cons I (.cons .bool (.cons I (.cons I (.cons I (.cons (.sl 3 (.one I)) (.one (.sl 179 k4)))))))))
def k16 : Ls := (.cons I (.one (.sl 90 k12)))
def k17 : Ls := (.cons I (.cons I (.cons (.sl 3 (.one I)) (.cons (.sl 118 k7) (.cons (.sl 22 (.one (.sl 3 (.one I)))) (.one (.sl 3 (.one I))))))))
def k18 : Ls := (.cons I (.cons I (.cons (.sl 3 (.one I)) (.cons (.sl 142 k9) (.cons I (.cons (.sl 90 k12) (.cons (.sl 118 k7) (.cons (.sl 95 k6) (.cons (.sl 3 (.one I)) (.cons (.sl 3 (.one I)) (.one I)))))))))))
def tbl : List (Nat × Ty) := [
  (3, ⟨false, (.one I), []⟩),
  (4, ⟨false, (.one .bool), []⟩),
  (5, ⟨false, (.one (.int .u8)), []⟩),
  (22, ⟨false, (.one (.sl 3 (.one I))), []⟩),
  (27, ⟨false, (.one (.sl 179 k4)), []⟩),
  (29, ⟨true, k15, [(0, 22), (1, 3), (2, 4), (3, 3), (4, 3), (5, 3), (6, 22), (7, 27)]⟩),
  (85, ⟨false, (.one (.sl 5 (.one (.int .u8)))), []⟩),
  (179, ⟨true, k4, [(0, 4), (1, 3), (2, 3)]⟩),
  (226, ⟨true, k11, [(0, 85), (1, 3), (2, 3)]⟩)]
theorem tblOk : tbl.all (fun p => tyB Try.prog p.1 p.2) = true := by kernel_rfl
theorem follows : Try.prog.follows .mixedOrders = true := by kernel_rfl
-- laws_big
def sm52 : Sm := ⟨[.val false [(.sl 5 (.one (.int .u8)))]], [(false, [(.bool, 0)])]⟩
def an52 : An := ⟨fun _ => none,
  fun _ => none,
  fun _ => none⟩
def s52 (n : Nat) : SmF := ⟨sm52, fun x => N.laws_big x⟩
def env52 (n : Nat) : List (FuncId × SmF) := []
theorem ev52 (n : Nat) (x : sm52.ins.D) : evFn (find tbl) (find (env52 n)) an52 n Try.f52 sm52 x = N.laws_big x := by kernel_rfl
theorem ok52 (n : Nat) : FnOk Try.prog TT 52 (s52 n) := fn_native (an := an52) (n := n) Try.func52 rfl (by kernel_rfl) tblOk env_nil follows (ev52 n)
theorem body52 : HasBody Try.prog 52 := ⟨_, _, Try.func52, rfl, by kernel_rfl⟩

-- spec_l1New
def sm139 : Sm := ⟨[.val false [(.sl 5 (.one (.int .u8)))]], [(false, [((.sl 5 (.one (.int .u8))), 0), (I, 0), (I, 0)])]⟩
def an139 : An := ⟨fun _ => none,
  fun b => match b with
    | 0 => some ([.slot 3 I, .slot 4 I], false)
    | _ => none,
  fun _ => none⟩
def s139 (n : Nat) : SmF := ⟨sm139, fun x => N.spec_l1New n x⟩
def env139 (n : Nat) : List (FuncId × SmF) := []
theorem ev139 (n : Nat) (x : sm139.ins.D) : evFn (find tbl) (find (env139 n)) an139 n Try.f139 sm139 x = N.spec_l1New n x := by kernel_rfl
theorem ok139 (n : Nat) : FnOk Try.prog TT 139 (s139 n) := fn_native (an := an139) (n := n) Try.func139 rfl (by kernel_rfl) tblOk env_nil follows (ev139 n)
theorem body139 : HasBody Try.prog 139 := ⟨_, _, Try.func139, rfl, by kernel_rfl⟩

-- spec_l1Size
def sm144 : Sm := ⟨[.val false [(.sl 5 (.one (.int .u8)))], .val false [I]], [(false, [(I, 0)])]⟩
def an144 : An := ⟨fun _ => none,
  fun _ => none,
  fun _ => none⟩
def s144 (n : Nat) : SmF := ⟨sm144, fun x => N.spec_l1Size x.1 x.2⟩
def env144 (n : Nat) : List (FuncId × SmF) := []
theorem ev144 (n : Nat) (x : sm144.ins.D) : evFn (find tbl) (find (env144 n)) an144 n Try.f144 sm144 x = N.spec_l1Size x.1 x.2 := by kernel_rfl
theorem ok144 (n : Nat) : FnOk Try.prog TT 144 (s144 n) := fn_native (an := an144) (n := n) Try.func144 rfl (by kernel_rfl) tblOk env_nil follows (ev144 n)
theorem body144 : HasBody Try.prog 144 := ⟨_, _, Try.func144, rfl, by kernel_rfl⟩

-- spec_LinkNew
def sm206 : Sm := ⟨[], [(true, [((.sl 3 (.one I)), 2), (I, 0), (.bool, 0), (I, 0), (I, 0), (I, 0), ((.sl 3 (.one I)), 2), ((.sl 179 k4), 2)])]⟩
def an206 : An := ⟨fun _ => none,
  fun _ => none,
  fun _ => none⟩
def s206 (n : Nat) : SmF := ⟨sm206, fun x => N.spec_LinkNew⟩
def env206 (n : Nat) : List (FuncId × SmF) := []
theorem ev206 (n : Nat) (x : sm206.ins.D) : evFn (find tbl) (find (env206 n)) an206 n Try.f206 sm206 x = N.spec_LinkNew := by kernel_rfl
theorem ok206 (n : Nat) : FnOk Try.prog TT 206 (s206 n) := fn_native (an := an206) (n := n) Try.func206 rfl (by kernel_rfl) tblOk env_nil follows (ev206 n)
theorem body206 : HasBody Try.prog 206 := ⟨_, _, Try.func206, rfl, by kernel_rfl⟩

-- spec_l1Byte
def sm205 : Sm := ⟨[.box [((.sl 5 (.one (.int .u8))), 0), (I, 0), (I, 0)]], [(false, [(I, 0)])]⟩
def an205 : An := ⟨fun _ => none,
  fun _ => none,
  fun b => match b with
    | 12 => some ([.slot 3 I, .box 0 [some ((.sl 5 (.one (.int .u8))), 0), some (I, 0), some (I, 0)]], false)
    | _ => none⟩
def s205 (n : Nat) : SmF := ⟨sm205, fun x => N.spec_l1Byte x.1 x.2.1 x.2.2⟩
def env205 (n : Nat) : List (FuncId × SmF) := []
theorem ev205 (n : Nat) (x : sm205.ins.D) : evFn (find tbl) (find (env205 n)) an205 n Try.f205 sm205 x = N.spec_l1Byte x.1 x.2.1 x.2.2 := by kernel_rfl
theorem ok205 (n : Nat) : FnOk Try.prog TT 205 (s205 n) := fn_native (an := an205) (n := n) Try.func205 rfl (by kernel_rfl) tblOk env_nil follows (ev205 n)
theorem body205 : HasBody Try.prog 205 := ⟨_, _, Try.func205, rfl, by kernel_rfl⟩

-- spec_l1Below
def sm141 : Sm := ⟨[.box [((.sl 5 (.one (.int .u8))), 0), (I, 0), (I, 0)], .val false [I]], [(false, [(I, 0)])]⟩
def an141 : An := ⟨fun _ => none,
  fun _ => none,
  fun _ => none⟩
def s141 (n : Nat) : SmF := ⟨sm141, fun x => N.spec_l1Below x.1 x.2.1 x.2.2.1 x.2.2.2⟩
def env141 (n : Nat) : List (FuncId × SmF) := [(205, s205 n)]
theorem ev141 (n : Nat) (x : sm141.ins.D) : evFn (find tbl) (find (env141 n)) an141 n Try.f141 sm141 x = N.spec_l1Below x.1 x.2.1 x.2.2.1 x.2.2.2 := by kernel_rfl
theorem ok141 (n : Nat) : FnOk Try.prog TT 141 (s141 n) := fn_native (an := an141) (n := n) Try.func141 rfl (by kernel_rfl) tblOk (env_cons (ok205 n) body205 env_nil) follows (ev141 n)
theorem body141 : HasBody Try.prog 141 := ⟨_, _, Try.func141, rfl, by kernel_rfl⟩

-- spec_l10Copy
def sm83 : Sm := ⟨[.val true [(.sl 3 (.one I)), I, .bool, I, I, I, (.sl 3 (.one I)), (.sl 179 k4)]], [(true, [((.sl 3 (.one I)), 2), (I, 0), (.bool, 0), (I, 0), (I, 0), (I, 0), ((.sl 3 (.one I)), 2), ((.sl 179 k4), 2)])]⟩
def an83 : An := ⟨fun _ => none,
  fun _ => none,
  fun _ => none⟩
def s83 (n : Nat) : SmF := ⟨sm83, fun x => N.spec_l10Copy x.1 x.2.1 x.2.2.1 x.2.2.2.1 x.2.2.2.2.1 x.2.2.2.2.2.1 x.2.2.2.2.2.2.1 x.2.2.2.2.2.2.2⟩
def env83 (n : Nat) : List (FuncId × SmF) := []
theorem ev83 (n : Nat) (x : sm83.ins.D) : evFn (find tbl) (find (env83 n)) an83 n Try.f83 sm83 x = N.spec_l10Copy x.1 x.2.1 x.2.2.1 x.2.2.2.1 x.2.2.2.2.1 x.2.2.2.2.2.1 x.2.2.2.2.2.2.1 x.2.2.2.2.2.2.2 := by kernel_rfl
theorem ok83 (n : Nat) : FnOk Try.prog TT 83 (s83 n) := fn_native (an := an83) (n := n) Try.func83 rfl (by kernel_rfl) tblOk env_nil follows (ev83 n)
theorem body83 : HasBody Try.prog 83 := ⟨_, _, Try.func83, rfl, by kernel_rfl⟩

-- spec_l1In
def sm102 : Sm := ⟨[.val false [I], .val false [I], .val false [I]], [(false, [(.bool, 0)])]⟩
def an102 : An := ⟨fun _ => none,
  fun _ => none,
  fun _ => none⟩
def s102 (n : Nat) : SmF := ⟨sm102, fun x => N.spec_l1In x.1 x.2.1 x.2.2⟩
def env102 (n : Nat) : List (FuncId × SmF) := []
theorem ev102 (n : Nat) (x : sm102.ins.D) : evFn (find tbl) (find (env102 n)) an102 n Try.f102 sm102 x = N.spec_l1In x.1 x.2.1 x.2.2 := by kernel_rfl
theorem ok102 (n : Nat) : FnOk Try.prog TT 102 (s102 n) := fn_native (an := an102) (n := n) Try.func102 rfl (by kernel_rfl) tblOk env_nil follows (ev102 n)
theorem body102 : HasBody Try.prog 102 := ⟨_, _, Try.func102, rfl, by kernel_rfl⟩

-- spec_l10Whats
def sm173 : Sm := ⟨[.val false [(.sl 3 (.one I))]], [(false, [(.bool, 0)])]⟩
def an173 : An := ⟨fun _ => none,
  fun b => match b with
    | 0 => some ([.slot 3 I], true)
    | _ => none,
  fun _ => none⟩
def s173 (n : Nat) : SmF := ⟨sm173, fun x => N.spec_l10Whats n x⟩
def env173 (n : Nat) : List (FuncId × SmF) := [(102, s102 n)]
theorem ev173 (n : Nat) (x : sm173.ins.D) : evFn (find tbl) (find (env173 n)) an173 n Try.f173 sm173 x = N.spec_l10Whats n x := by kernel_rfl
theorem ok173 (n : Nat) : FnOk Try.prog TT 173 (s173 n) := fn_native (an := an173) (n := n) Try.func173 rfl (by kernel_rfl) tblOk (env_cons (ok102 n) body102 env_nil) follows (ev173 n)
theorem body173 : HasBody Try.prog 173 := ⟨_, _, Try.func173, rfl, by kernel_rfl⟩

-- spec_LinkOk
def sm84 : Sm := ⟨[.val true [(.sl 3 (.one I)), I, .bool, I, I, I, (.sl 3 (.one I)), (.sl 179 k4)]], [(false, [(.bool, 0)])]⟩
def an84 : An := ⟨fun _ => none,
  fun b => match b with
    | 0 => some ([.slot 3 I], true)
    | _ => none,
  fun _ => none⟩
def s84 (n : Nat) : SmF := ⟨sm84, fun x => N.spec_LinkOk n x.1 x.2.1 x.2.2.1 x.2.2.2.1 x.2.2.2.2.1 x.2.2.2.2.2.1 x.2.2.2.2.2.2.1 x.2.2.2.2.2.2.2⟩
def env84 (n : Nat) : List (FuncId × SmF) := [(102, s102 n), (173, s173 n)]
theorem ev84 (n : Nat) (x : sm84.ins.D) : evFn (find tbl) (find (env84 n)) an84 n Try.f84 sm84 x = N.spec_LinkOk n x.1 x.2.1 x.2.2.1 x.2.2.2.1 x.2.2.2.2.1 x.2.2.2.2.2.1 x.2.2.2.2.2.2.1 x.2.2.2.2.2.2.2 := by kernel_rfl
theorem ok84 (n : Nat) : FnOk Try.prog TT 84 (s84 n) := fn_native (an := an84) (n := n) Try.func84 rfl (by kernel_rfl) tblOk (env_cons (ok102 n) body102 (env_cons (ok173 n) body173 env_nil)) follows (ev84 n)
theorem body84 : HasBody Try.prog 84 := ⟨_, _, Try.func84, rfl, by kernel_rfl⟩

-- spec_Tell
def sm207 : Sm := ⟨[.val true [(.sl 3 (.one I)), I, .bool, I, I, I, (.sl 3 (.one I)), (.sl 179 k4)], .val false [I]], [(true, [((.sl 3 (.one I)), 2), (I, 0), (.bool, 0), (I, 0), (I, 0), (I, 0), ((.sl 3 (.one I)), 2), ((.sl 179 k4), 2)]), (false, [(.bool, 0)])]⟩
def an207 : An := ⟨fun _ => none,
  fun _ => none,
  fun _ => none⟩
def s207 (n : Nat) : SmF := ⟨sm207, fun x => N.spec_Tell n x.1 x.2.1 x.2.2.1 x.2.2.2.1 x.2.2.2.2.1 x.2.2.2.2.2.1 x.2.2.2.2.2.2.1 x.2.2.2.2.2.2.2.1 x.2.2.2.2.2.2.2.2⟩
def env207 (n : Nat) : List (FuncId × SmF) := [(83, s83 n), (84, s84 n), (102, s102 n)]
theorem ev207 (n : Nat) (x : sm207.ins.D) : evFn (find tbl) (find (env207 n)) an207 n Try.f207 sm207 x = N.spec_Tell n x.1 x.2.1 x.2.2.1 x.2.2.2.1 x.2.2.2.2.1 x.2.2.2.2.2.1 x.2.2.2.2.2.2.1 x.2.2.2.2.2.2.2.1 x.2.2.2.2.2.2.2.2 := by kernel_rfl
theorem ok207 (n : Nat) : FnOk Try.prog TT 207 (s207 n) := fn_native (an := an207) (n := n) Try.func207 rfl (by kernel_rfl) tblOk (env_cons (ok83 n) body83 (env_cons (ok84 n) body84 (env_cons (ok102 n) body102 env_nil))) follows (ev207 n)
theorem body207 : HasBody Try.prog 207 := ⟨_, _, Try.func207, rfl, by kernel_rfl⟩

-- spec_l10Says
def sm174 : Sm := ⟨[.box [((.sl 3 (.one I)), 2), (I, 0), (.bool, 0), (I, 0), (I, 0), (I, 0), ((.sl 3 (.one I)), 2), ((.sl 179 k4), 2)], .val true [.bool, I, I]], []⟩
def an174 : An := ⟨fun _ => none,
  fun _ => none,
  fun _ => none⟩
def s174 (n : Nat) : SmF := ⟨sm174, fun x => N.spec_l10Says x.1 x.2.1 x.2.2.1 x.2.2.2.1 x.2.2.2.2.1 x.2.2.2.2.2.1 x.2.2.2.2.2.2.1 x.2.2.2.2.2.2.2.1 x.2.2.2.2.2.2.2.2.1 x.2.2.2.2.2.2.2.2.2.1 x.2.2.2.2.2.2.2.2.2.2⟩
def env174 (n : Nat) : List (FuncId × SmF) := []
theorem ev174 (n : Nat) (x : sm174.ins.D) : evFn (find tbl) (find (env174 n)) an174 n Try.f174 sm174 x = N.spec_l10Says x.1 x.2.1 x.2.2.1 x.2.2.2.1 x.2.2.2.2.1 x.2.2.2.2.2.1 x.2.2.2.2.2.2.1 x.2.2.2.2.2.2.2.1 x.2.2.2.2.2.2.2.2.1 x.2.2.2.2.2.2.2.2.2.1 x.2.2.2.2.2.2.2.2.2.2 := by kernel_rfl
theorem ok174 (n : Nat) : FnOk Try.prog TT 174 (s174 n) := fn_native (an := an174) (n := n) Try.func174 rfl (by kernel_rfl) tblOk env_nil follows (ev174 n)
theorem body174 : HasBody Try.prog 174 := ⟨_, _, Try.func174, rfl, by kernel_rfl⟩

-- spec_l10Tick
def sm85 : Sm := ⟨[.box [((.sl 3 (.one I)), 2), (I, 0), (.bool, 0), (I, 0), (I, 0), (I, 0), ((.sl 3 (.one I)), 2), ((.sl 179 k4), 2)]], []⟩
def an85 : An := ⟨fun _ => none,
  fun _ => none,
  fun b => match b with
    | 3 => some ([.box 0 [some ((.sl 3 (.one I)), 2), some (I, 0), some (.bool, 0), some (I, 0), some (I, 0), some (I, 0), some ((.sl 3 (.one I)), 2), some ((.sl 179 k4), 2)]], false)
    | _ => none⟩
def s85 (n : Nat) : SmF := ⟨sm85, fun x => N.spec_l10Tick x.1 x.2.1 x.2.2.1 x.2.2.2.1 x.2.2.2.2.1 x.2.2.2.2.2.1 x.2.2.2.2.2.2.1 x.2.2.2.2.2.2.2⟩
def env85 (n : Nat) : List (FuncId × SmF) := [(174, s174 n)]
theorem ev85 (n : Nat) (x : sm85.ins.D) : evFn (find tbl) (find (env85 n)) an85 n Try.f85 sm85 x = N.spec_l10Tick x.1 x.2.1 x.2.2.1 x.2.2.2.1 x.2.2.2.2.1 x.2.2.2.2.2.1 x.2.2.2.2.2.2.1 x.2.2.2.2.2.2.2 := by kernel_rfl
theorem ok85 (n : Nat) : FnOk Try.prog TT 85 (s85 n) := fn_native (an := an85) (n := n) Try.func85 rfl (by kernel_rfl) tblOk (env_cons (ok174 n) body174 env_nil) follows (ev85 n)
theorem body85 : HasBody Try.prog 85 := ⟨_, _, Try.func85, rfl, by kernel_rfl⟩

-- spec_l10Hear
def sm175 : Sm := ⟨[.box [((.sl 3 (.one I)), 2), (I, 0), (.bool, 0), (I, 0), (I, 0), (I, 0), ((.sl 3 (.one I)), 2), ((.sl 179 k4), 2)], .val true [.bool, I, I]], []⟩
def an175 : An := ⟨fun _ => none,
  fun _ => none,
  fun b => match b with
    | 18 => some ([.box 0 [some ((.sl 3 (.one I)), 2), some (I, 0), some (.bool, 0), some (I, 0), some (I, 0), some (I, 0), some ((.sl 3 (.one I)), 2), some ((.sl 179 k4), 2)]], false)
    | _ => none⟩
def s175 (n : Nat) : SmF := ⟨sm175, fun x => N.spec_l10Hear x.1 x.2.1 x.2.2.1 x.2.2.2.1 x.2.2.2.2.1 x.2.2.2.2.2.1 x.2.2.2.2.2.2.1 x.2.2.2.2.2.2.2.1 x.2.2.2.2.2.2.2.2.1 x.2.2.2.2.2.2.2.2.2.1 x.2.2.2.2.2.2.2.2.2.2⟩
def env175 (n : Nat) : List (FuncId × SmF) := [(174, s174 n)]
theorem ev175 (n : Nat) (x : sm175.ins.D) : evFn (find tbl) (find (env175 n)) an175 n Try.f175 sm175 x = N.spec_l10Hear x.1 x.2.1 x.2.2.1 x.2.2.2.1 x.2.2.2.2.1 x.2.2.2.2.2.1 x.2.2.2.2.2.2.1 x.2.2.2.2.2.2.2.1 x.2.2.2.2.2.2.2.2.1 x.2.2.2.2.2.2.2.2.2.1 x.2.2.2.2.2.2.2.2.2.2 := by kernel_rfl
theorem ok175 (n : Nat) : FnOk Try.prog TT 175 (s175 n) := fn_native (an := an175) (n := n) Try.func175 rfl (by kernel_rfl) tblOk (env_cons (ok174 n) body174 env_nil) follows (ev175 n)
theorem body175 : HasBody Try.prog 175 := ⟨_, _, Try.func175, rfl, by kernel_rfl⟩

-- spec_l10Do
def sm86 : Sm := ⟨[.box [((.sl 3 (.one I)), 2), (I, 0), (.bool, 0), (I, 0), (I, 0), (I, 0), ((.sl 3 (.one I)), 2), ((.sl 179 k4), 2)], .val false [I], .val false [I]], [(false, [(.bool, 0)])]⟩
def an86 : An := ⟨fun _ => none,
  fun _ => none,
  fun b => match b with
    | 36 => some ([.box 0 [some ((.sl 3 (.one I)), 2), some (I, 0), some (.bool, 0), some (I, 0), some (I, 0), some (I, 0), some ((.sl 3 (.one I)), 2), some ((.sl 179 k4), 2)]], false)
    | _ => none⟩
def s86 (n : Nat) : SmF := ⟨sm86, fun x => N.spec_l10Do x.1 x.2.1 x.2.2.1 x.2.2.2.1 x.2.2.2.2.1 x.2.2.2.2.2.1 x.2.2.2.2.2.2.1 x.2.2.2.2.2.2.2.1 x.2.2.2.2.2.2.2.2.1 x.2.2.2.2.2.2.2.2.2⟩
def env86 (n : Nat) : List (FuncId × SmF) := [(85, s85 n), (102, s102 n), (175, s175 n)]
theorem ev86 (n : Nat) (x : sm86.ins.D) : evFn (find tbl) (find (env86 n)) an86 n Try.f86 sm86 x = N.spec_l10Do x.1 x.2.1 x.2.2.1 x.2.2.2.1 x.2.2.2.2.1 x.2.2.2.2.2.1 x.2.2.2.2.2.2.1 x.2.2.2.2.2.2.2.1 x.2.2.2.2.2.2.2.2.1 x.2.2.2.2.2.2.2.2.2 := by kernel_rfl
theorem ok86 (n : Nat) : FnOk Try.prog TT 86 (s86 n) := fn_native (an := an86) (n := n) Try.func86 rfl (by kernel_rfl) tblOk (env_cons (ok85 n) body85 (env_cons (ok102 n) body102 (env_cons (ok175 n) body175 env_nil))) follows (ev86 n)
theorem body86 : HasBody Try.prog 86 := ⟨_, _, Try.func86, rfl, by kernel_rfl⟩

-- spec_l10Draw
def sm143 : Sm := ⟨[.box [((.sl 5 (.one (.int .u8))), 0), (I, 0), (I, 0)], .val false [I]], [(true, [((.sl 3 (.one I)), 2), (I, 0), (.bool, 0), (I, 0), (I, 0), (I, 0), ((.sl 3 (.one I)), 2), ((.sl 179 k4), 2)]), (false, [((.sl 3 (.one I)), 2)])]⟩
def an143 : An := ⟨fun _ => none,
  fun b => match b with
    | 0 => some ([.own 7 3 (.one I) 2 false, .slot 8 I, .box 0 [some ((.sl 5 (.one (.int .u8))), 0), some (I, 0), some (I, 0)], .box 6 [some ((.sl 3 (.one I)), 2), some (I, 0), some (.bool, 0), some (I, 0), some (I, 0), some (I, 0), some ((.sl 3 (.one I)), 2), some ((.sl 179 k4), 2)]], false)
    | _ => none,
  fun b => match b with
    | 7 => some ([.own 7 3 (.one I) 2 false, .box 0 [some ((.sl 5 (.one (.int .u8))), 0), some (I, 0), some (I, 0)], .box 6 [some ((.sl 3 (.one I)), 2), some (I, 0), some (.bool, 0), some (I, 0), some (I, 0), some (I, 0), some ((.sl 3 (.one I)), 2), some ((.sl 179 k4), 2)]], false)
    | 27 => some ([.slot 26 .bool], false)
    | 48 => some ([.slot 43 .bool], false)
    | _ => none⟩
def s143 (n : Nat) : SmF := ⟨sm143, fun x => N.spec_l10Draw n x.1 x.2.1 x.2.2.1 x.2.2.2⟩
def env143 (n : Nat) : List (FuncId × SmF) := [(86, s86 n), (141, s141 n), (206, s206 n), (207, s207 n)]
theorem ev143 (n : Nat) (x : sm143.ins.D) : evFn (find tbl) (find (env143 n)) an143 n Try.f143 sm143 x = N.spec_l10Draw n x.1 x.2.1 x.2.2.1 x.2.2.2 := by kernel_rfl
theorem ok143 (n : Nat) : FnOk Try.prog TT 143 (s143 n) := fn_native (an := an143) (n := n) Try.func143 rfl (by kernel_rfl) tblOk (env_cons (ok86 n) body86 (env_cons (ok141 n) body141 (env_cons (ok206 n) body206 (env_cons (ok207 n) body207 env_nil)))) follows (ev143 n)
theorem body143 : HasBody Try.prog 143 := ⟨_, _, Try.func143, rfl, by kernel_rfl⟩

-- spec_DrawLink
def sm57 : Sm := ⟨[.val false [(.sl 5 (.one (.int .u8)))]], [(true, [((.sl 3 (.one I)), 2), (I, 0), (.bool, 0), (I, 0), (I, 0), (I, 0), ((.sl 3 (.one I)), 2), ((.sl 179 k4), 2)]), (false, [((.sl 3 (.one I)), 2)])]⟩
def an57 : An := ⟨fun _ => none,
  fun _ => none,
  fun _ => none⟩
def s57 (n : Nat) : SmF := ⟨sm57, fun x => N.spec_DrawLink n x⟩
def env57 (n : Nat) : List (FuncId × SmF) := [(139, s139 n), (143, s143 n), (144, s144 n)]
theorem ev57 (n : Nat) (x : sm57.ins.D) : evFn (find tbl) (find (env57 n)) an57 n Try.f57 sm57 x = N.spec_DrawLink n x := by kernel_rfl
theorem ok57 (n : Nat) : FnOk Try.prog TT 57 (s57 n) := fn_native (an := an57) (n := n) Try.func57 rfl (by kernel_rfl) tblOk (env_cons (ok139 n) body139 (env_cons (ok143 n) body143 (env_cons (ok144 n) body144 env_nil))) follows (ev57 n)
theorem body57 : HasBody Try.prog 57 := ⟨_, _, Try.func57, rfl, by kernel_rfl⟩

-- impl_in
def sm147 : Sm := ⟨[.val false [I], .val false [I], .val false [I]], [(false, [(.bool, 0)])]⟩
def an147 : An := ⟨fun _ => none,
  fun _ => none,
  fun _ => none⟩
def s147 (n : Nat) : SmF := ⟨sm147, fun x => N.impl_in x.1 x.2.1 x.2.2⟩
def env147 (n : Nat) : List (FuncId × SmF) := []
theorem ev147 (n : Nat) (x : sm147.ins.D) : evFn (find tbl) (find (env147 n)) an147 n Try.f147 sm147 x = N.impl_in x.1 x.2.1 x.2.2 := by kernel_rfl
theorem ok147 (n : Nat) : FnOk Try.prog TT 147 (s147 n) := fn_native (an := an147) (n := n) Try.func147 rfl (by kernel_rfl) tblOk env_nil follows (ev147 n)
theorem body147 : HasBody Try.prog 147 := ⟨_, _, Try.func147, rfl, by kernel_rfl⟩

-- impl_whatsOk
def sm145 : Sm := ⟨[.val false [(.sl 3 (.one I))]], [(false, [(.bool, 0)])]⟩
def an145 : An := ⟨fun _ => none,
  fun b => match b with
    | 0 => some ([.slot 7 I], true)
    | _ => none,
  fun _ => none⟩
def s145 (n : Nat) : SmF := ⟨sm145, fun x => N.impl_whatsOk n x⟩
def env145 (n : Nat) : List (FuncId × SmF) := [(147, s147 n)]
theorem ev145 (n : Nat) (x : sm145.ins.D) : evFn (find tbl) (find (env145 n)) an145 n Try.f145 sm145 x = N.impl_whatsOk n x := by kernel_rfl
theorem ok145 (n : Nat) : FnOk Try.prog TT 145 (s145 n) := fn_native (an := an145) (n := n) Try.func145 rfl (by kernel_rfl) tblOk (env_cons (ok147 n) body147 env_nil) follows (ev145 n)
theorem body145 : HasBody Try.prog 145 := ⟨_, _, Try.func145, rfl, by kernel_rfl⟩

-- impl_airOk
def sm146 : Sm := ⟨[.val false [(.sl 179 k4)]], [(false, [(.bool, 0)])]⟩
def an146 : An := ⟨fun _ => none,
  fun b => match b with
    | 0 => some ([.slot 7 I], true)
    | _ => none,
  fun _ => none⟩
def s146 (n : Nat) : SmF := ⟨sm146, fun x => N.impl_airOk n x⟩
def env146 (n : Nat) : List (FuncId × SmF) := [(147, s147 n)]
theorem ev146 (n : Nat) (x : sm146.ins.D) : evFn (find tbl) (find (env146 n)) an146 n Try.f146 sm146 x = N.impl_airOk n x := by kernel_rfl
theorem ok146 (n : Nat) : FnOk Try.prog TT 146 (s146 n) := fn_native (an := an146) (n := n) Try.func146 rfl (by kernel_rfl) tblOk (env_cons (ok147 n) body147 env_nil) follows (ev146 n)
theorem body146 : HasBody Try.prog 146 := ⟨_, _, Try.func146, rfl, by kernel_rfl⟩

-- impl_LinkOk
def sm58 : Sm := ⟨[.val true [(.sl 3 (.one I)), I, .bool, I, I, I, (.sl 3 (.one I)), (.sl 179 k4)]], [(false, [(.bool, 0)])]⟩
def an58 : An := ⟨fun _ => none,
  fun _ => none,
  fun _ => none⟩
def s58 (n : Nat) : SmF := ⟨sm58, fun x => N.impl_LinkOk n x.1 x.2.1 x.2.2.1 x.2.2.2.1 x.2.2.2.2.1 x.2.2.2.2.2.1 x.2.2.2.2.2.2.1 x.2.2.2.2.2.2.2⟩
def env58 (n : Nat) : List (FuncId × SmF) := [(145, s145 n), (146, s146 n), (147, s147 n)]
theorem ev58 (n : Nat) (x : sm58.ins.D) : evFn (find tbl) (find (env58 n)) an58 n Try.f58 sm58 x = N.impl_LinkOk n x.1 x.2.1 x.2.2.1 x.2.2.2.1 x.2.2.2.2.1 x.2.2.2.2.2.1 x.2.2.2.2.2.2.1 x.2.2.2.2.2.2.2 := by kernel_rfl
theorem ok58 (n : Nat) : FnOk Try.prog TT 58 (s58 n) := fn_native (an := an58) (n := n) Try.func58 rfl (by kernel_rfl) tblOk (env_cons (ok145 n) body145 (env_cons (ok146 n) body146 (env_cons (ok147 n) body147 env_nil))) follows (ev58 n)
theorem body58 : HasBody Try.prog 58 := ⟨_, _, Try.func58, rfl, by kernel_rfl⟩

-- impl_copyInts
def sm177 : Sm := ⟨[.val false [(.sl 3 (.one I))]], [(false, [((.sl 3 (.one I)), 2)])]⟩
def an177 : An := ⟨fun _ => none,
  fun _ => none,
  fun _ => none⟩
def s177 (n : Nat) : SmF := ⟨sm177, fun x => N.impl_copyInts x⟩
def env177 (n : Nat) : List (FuncId × SmF) := []
theorem ev177 (n : Nat) (x : sm177.ins.D) : evFn (find tbl) (find (env177 n)) an177 n Try.f177 sm177 x = N.impl_copyInts x := by kernel_rfl
theorem ok177 (n : Nat) : FnOk Try.prog TT 177 (s177 n) := fn_native (an := an177) (n := n) Try.func177 rfl (by kernel_rfl) tblOk env_nil follows (ev177 n)
theorem body177 : HasBody Try.prog 177 := ⟨_, _, Try.func177, rfl, by kernel_rfl⟩

-- impl_copyLink
def sm89 : Sm := ⟨[.val true [(.sl 3 (.one I)), I, .bool, I, I, I, (.sl 3 (.one I)), (.sl 179 k4)]], [(true, [((.sl 3 (.one I)), 2), (I, 0), (.bool, 0), (I, 0), (I, 0), (I, 0), ((.sl 3 (.one I)), 2), ((.sl 179 k4), 2)])]⟩
def an89 : An := ⟨fun _ => none,
  fun _ => none,
  fun _ => none⟩
def s89 (n : Nat) : SmF := ⟨sm89, fun x => N.impl_copyLink x.1 x.2.1 x.2.2.1 x.2.2.2.1 x.2.2.2.2.1 x.2.2.2.2.2.1 x.2.2.2.2.2.2.1 x.2.2.2.2.2.2.2⟩
def env89 (n : Nat) : List (FuncId × SmF) := [(177, s177 n)]
theorem ev89 (n : Nat) (x : sm89.ins.D) : evFn (find tbl) (find (env89 n)) an89 n Try.f89 sm89 x = N.impl_copyLink x.1 x.2.1 x.2.2.1 x.2.2.2.1 x.2.2.2.2.1 x.2.2.2.2.2.1 x.2.2.2.2.2.2.1 x.2.2.2.2.2.2.2 := by kernel_rfl
theorem ok89 (n : Nat) : FnOk Try.prog TT 89 (s89 n) := fn_native (an := an89) (n := n) Try.func89 rfl (by kernel_rfl) tblOk (env_cons (ok177 n) body177 env_nil) follows (ev89 n)
theorem body89 : HasBody Try.prog 89 := ⟨_, _, Try.func89, rfl, by kernel_rfl⟩

-- impl_Link_say
def sm149 : Sm := ⟨[.box [((.sl 3 (.one I)), 2), (I, 0), (.bool, 0), (I, 0), (I, 0), (I, 0), ((.sl 3 (.one I)), 2), ((.sl 179 k4), 2)], .val true [.bool, I, I]], []⟩
def an149 : An := ⟨fun _ => none,
  fun _ => none,
  fun _ => none⟩
def s149 (n : Nat) : SmF := ⟨sm149, fun x => N.impl_Link_say x.1 x.2.1 x.2.2.1 x.2.2.2.1 x.2.2.2.2.1 x.2.2.2.2.2.1 x.2.2.2.2.2.2.1 x.2.2.2.2.2.2.2.1 x.2.2.2.2.2.2.2.2.1 x.2.2.2.2.2.2.2.2.2.1 x.2.2.2.2.2.2.2.2.2.2⟩
def env149 (n : Nat) : List (FuncId × SmF) := []
theorem ev149 (n : Nat) (x : sm149.ins.D) : evFn (find tbl) (find (env149 n)) an149 n Try.f149 sm149 x = N.impl_Link_say x.1 x.2.1 x.2.2.1 x.2.2.2.1 x.2.2.2.2.1 x.2.2.2.2.2.1 x.2.2.2.2.2.2.1 x.2.2.2.2.2.2.2.1 x.2.2.2.2.2.2.2.2.1 x.2.2.2.2.2.2.2.2.2.1 x.2.2.2.2.2.2.2.2.2.2 := by kernel_rfl
theorem ok149 (n : Nat) : FnOk Try.prog TT 149 (s149 n) := fn_native (an := an149) (n := n) Try.func149 rfl (by kernel_rfl) tblOk env_nil follows (ev149 n)
theorem body149 : HasBody Try.prog 149 := ⟨_, _, Try.func149, rfl, by kernel_rfl⟩

-- impl_Link_tick
def sm90 : Sm := ⟨[.box [((.sl 3 (.one I)), 2), (I, 0), (.bool, 0), (I, 0), (I, 0), (I, 0), ((.sl 3 (.one I)), 2), ((.sl 179 k4), 2)]], []⟩
def an90 : An := ⟨fun _ => none,
  fun _ => none,
  fun b => match b with
    | 3 => some ([.box 0 [some ((.sl 3 (.one I)), 2), some (I, 0), some (.bool, 0), some (I, 0), some (I, 0), some (I, 0), some ((.sl 3 (.one I)), 2), some ((.sl 179 k4), 2)]], false)
    | 4 => some ([.box 0 [some ((.sl 3 (.one I)), 2), some (I, 0), some (.bool, 0), some (I, 0), some (I, 0), some (I, 0), some ((.sl 3 (.one I)), 2), some ((.sl 179 k4), 2)]], true)
    | _ => none⟩
def s90 (n : Nat) : SmF := ⟨sm90, fun x => N.impl_Link_tick x.1 x.2.1 x.2.2.1 x.2.2.2.1 x.2.2.2.2.1 x.2.2.2.2.2.1 x.2.2.2.2.2.2.1 x.2.2.2.2.2.2.2⟩
def env90 (n : Nat) : List (FuncId × SmF) := [(149, s149 n)]
theorem ev90 (n : Nat) (x : sm90.ins.D) : evFn (find tbl) (find (env90 n)) an90 n Try.f90 sm90 x = N.impl_Link_tick x.1 x.2.1 x.2.2.1 x.2.2.2.1 x.2.2.2.2.1 x.2.2.2.2.2.1 x.2.2.2.2.2.2.1 x.2.2.2.2.2.2.2 := by kernel_rfl
theorem ok90 (n : Nat) : FnOk Try.prog TT 90 (s90 n) := fn_native (an := an90) (n := n) Try.func90 rfl (by kernel_rfl) tblOk (env_cons (ok149 n) body149 env_nil) follows (ev90 n)
theorem body90 : HasBody Try.prog 90 := ⟨_, _, Try.func90, rfl, by kernel_rfl⟩

-- impl_Link_drop
def sm148 : Sm := ⟨[.box [((.sl 3 (.one I)), 2), (I, 0), (.bool, 0), (I, 0), (I, 0), (I, 0), ((.sl 3 (.one I)), 2), ((.sl 179 k4), 2)], .val false [I]], [(true, [(.bool, 0), (I, 0), (I, 0)])]⟩
def an148 : An := ⟨fun _ => none,
  fun _ => none,
  fun _ => none⟩
def s148 (n : Nat) : SmF := ⟨sm148, fun x => N.impl_Link_drop x.1 x.2.1 x.2.2.1 x.2.2.2.1 x.2.2.2.2.1 x.2.2.2.2.2.1 x.2.2.2.2.2.2.1 x.2.2.2.2.2.2.2.1 x.2.2.2.2.2.2.2.2⟩
def env148 (n : Nat) : List (FuncId × SmF) := []
theorem ev148 (n : Nat) (x : sm148.ins.D) : evFn (find tbl) (find (env148 n)) an148 n Try.f148 sm148 x = N.impl_Link_drop x.1 x.2.1 x.2.2.1 x.2.2.2.1 x.2.2.2.2.1 x.2.2.2.2.2.1 x.2.2.2.2.2.2.1 x.2.2.2.2.2.2.2.1 x.2.2.2.2.2.2.2.2 := by kernel_rfl
theorem ok148 (n : Nat) : FnOk Try.prog TT 148 (s148 n) := fn_native (an := an148) (n := n) Try.func148 rfl (by kernel_rfl) tblOk env_nil follows (ev148 n)
theorem body148 : HasBody Try.prog 148 := ⟨_, _, Try.func148, rfl, by kernel_rfl⟩

-- impl_Link_hear
def sm91 : Sm := ⟨[.box [((.sl 3 (.one I)), 2), (I, 0), (.bool, 0), (I, 0), (I, 0), (I, 0), ((.sl 3 (.one I)), 2), ((.sl 179 k4), 2)], .val false [I]], []⟩
def an91 : An := ⟨fun _ => none,
  fun _ => none,
  fun b => match b with
    | 18 => some ([.box 0 [some ((.sl 3 (.one I)), 2), some (I, 0), some (.bool, 0), some (I, 0), some (I, 0), some (I, 0), some ((.sl 3 (.one I)), 2), some ((.sl 179 k4), 2)]], false)
    | _ => none⟩
def s91 (n : Nat) : SmF := ⟨sm91, fun x => N.impl_Link_hear x.1 x.2.1 x.2.2.1 x.2.2.2.1 x.2.2.2.2.1 x.2.2.2.2.2.1 x.2.2.2.2.2.2.1 x.2.2.2.2.2.2.2.1 x.2.2.2.2.2.2.2.2⟩
def env91 (n : Nat) : List (FuncId × SmF) := [(148, s148 n), (149, s149 n), (177, s177 n)]
theorem ev91 (n : Nat) (x : sm91.ins.D) : evFn (find tbl) (find (env91 n)) an91 n Try.f91 sm91 x = N.impl_Link_hear x.1 x.2.1 x.2.2.1 x.2.2.2.1 x.2.2.2.2.1 x.2.2.2.2.2.1 x.2.2.2.2.2.2.1 x.2.2.2.2.2.2.2.1 x.2.2.2.2.2.2.2.2 := by kernel_rfl
theorem ok91 (n : Nat) : FnOk Try.prog TT 91 (s91 n) := fn_native (an := an91) (n := n) Try.func91 rfl (by kernel_rfl) tblOk (env_cons (ok148 n) body148 (env_cons (ok149 n) body149 (env_cons (ok177 n) body177 env_nil))) follows (ev91 n)
theorem body91 : HasBody Try.prog 91 := ⟨_, _, Try.func91, rfl, by kernel_rfl⟩

-- impl_LinkDo
def sm59 : Sm := ⟨[.val true [(.sl 3 (.one I)), I, .bool, I, I, I, (.sl 3 (.one I)), (.sl 179 k4)], .val false [I], .val false [I]], [(true, [((.sl 3 (.one I)), 2), (I, 0), (.bool, 0), (I, 0), (I, 0), (I, 0), ((.sl 3 (.one I)), 2), ((.sl 179 k4), 2)]), (false, [(.bool, 0)])]⟩
def an59 : An := ⟨fun _ => none,
  fun _ => none,
  fun b => match b with
    | 4 => some ([.box 6 [some ((.sl 3 (.one I)), 2), some (I, 0), some (.bool, 0), some (I, 0), some (I, 0), some (I, 0), some ((.sl 3 (.one I)), 2), some ((.sl 179 k4), 2)], .box 8 [some ((.sl 3 (.one I)), 2), some (I, 0), some (.bool, 0), some (I, 0), some (I, 0), some (I, 0), some ((.sl 3 (.one I)), 2), some ((.sl 179 k4), 2)]], true)
    | _ => none⟩
def s59 (n : Nat) : SmF := ⟨sm59, fun x => N.impl_LinkDo n x.1 x.2.1 x.2.2.1 x.2.2.2.1 x.2.2.2.2.1 x.2.2.2.2.2.1 x.2.2.2.2.2.2.1 x.2.2.2.2.2.2.2.1 x.2.2.2.2.2.2.2.2.1 x.2.2.2.2.2.2.2.2.2⟩
def env59 (n : Nat) : List (FuncId × SmF) := [(58, s58 n), (89, s89 n), (90, s90 n), (91, s91 n), (147, s147 n), (148, s148 n), (149, s149 n)]
theorem ev59 (n : Nat) (x : sm59.ins.D) : evFn (find tbl) (find (env59 n)) an59 n Try.f59 sm59 x = N.impl_LinkDo n x.1 x.2.1 x.2.2.1 x.2.2.2.1 x.2.2.2.2.1 x.2.2.2.2.2.1 x.2.2.2.2.2.2.1 x.2.2.2.2.2.2.2.1 x.2.2.2.2.2.2.2.2.1 x.2.2.2.2.2.2.2.2.2 := by kernel_rfl
theorem ok59 (n : Nat) : FnOk Try.prog TT 59 (s59 n) := fn_native (an := an59) (n := n) Try.func59 rfl (by kernel_rfl) tblOk (env_cons (ok58 n) body58 (env_cons (ok89 n) body89 (env_cons (ok90 n) body90 (env_cons (ok91 n) body91 (env_cons (ok147 n) body147 (env_cons (ok148 n) body148 (env_cons (ok149 n) body149 env_nil))))))) follows (ev59 n)
theorem body59 : HasBody Try.prog 59 := ⟨_, _, Try.func59, rfl, by kernel_rfl⟩

-- laws_sameInts
def sm60 : Sm := ⟨[.val false [(.sl 3 (.one I))], .val false [(.sl 3 (.one I))]], [(false, [(.bool, 0)])]⟩
def an60 : An := ⟨fun _ => none,
  fun b => match b with
    | 0 => some ([.slot 5 I], true)
    | _ => none,
  fun _ => none⟩
def s60 (n : Nat) : SmF := ⟨sm60, fun x => N.laws_sameInts n x.1 x.2⟩
def env60 (n : Nat) : List (FuncId × SmF) := []
theorem ev60 (n : Nat) (x : sm60.ins.D) : evFn (find tbl) (find (env60 n)) an60 n Try.f60 sm60 x = N.laws_sameInts n x.1 x.2 := by kernel_rfl
theorem ok60 (n : Nat) : FnOk Try.prog TT 60 (s60 n) := fn_native (an := an60) (n := n) Try.func60 rfl (by kernel_rfl) tblOk env_nil follows (ev60 n)
theorem body60 : HasBody Try.prog 60 := ⟨_, _, Try.func60, rfl, by kernel_rfl⟩

-- laws_FnLink
def sm9 : Sm := ⟨[.val false [(.sl 5 (.one (.int .u8)))]], [(false, [(.bool, 0)])]⟩
def an9 : An := ⟨fun _ => none,
  fun b => match b with
    | 0 => some ([.slot 5 I], true)
    | _ => none,
  fun _ => none⟩
def s9 (n : Nat) : SmF := ⟨sm9, fun x => N.laws_FnLink n x⟩
def env9 (n : Nat) : List (FuncId × SmF) := [(52, s52 n), (57, s57 n), (58, s58 n), (59, s59 n), (60, s60 n)]
theorem ev9 (n : Nat) (x : sm9.ins.D) : evFn (find tbl) (find (env9 n)) an9 n Try.f9 sm9 x = N.laws_FnLink n x := by kernel_rfl
theorem ok9 (n : Nat) : FnOk Try.prog TT 9 (s9 n) := fn_native (an := an9) (n := n) Try.func9 rfl (by kernel_rfl) tblOk (env_cons (ok52 n) body52 (env_cons (ok57 n) body57 (env_cons (ok58 n) body58 (env_cons (ok59 n) body59 (env_cons (ok60 n) body60 env_nil))))) follows (ev9 n)
theorem body9 : HasBody Try.prog 9 := ⟨_, _, Try.func9, rfl, by kernel_rfl⟩
end Go.Proofs.Ytjbfgbgibmebfaa.Ev
