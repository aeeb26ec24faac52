/- Tables of types; summaries of the functions. Conditions: none. -/
import Derived.Test.YtjbfgbgibmebfaaLib3
import Derived.Test.YtjbfgbgibmebfaaFnExactCalmNat
import Derived.Test.YtjbfgbgibmebfaaProg
import Derived.KernelRfl
namespace Go.Proofs.Ytjbfgbgibmebfaa.Ev
open Go Go.Ev Go.Proofs
set_option linter.unusedVariables false
set_option maxRecDepth 100000

abbrev I : L := .int .i64
/-- Package-level variables that are looked at. -/
abbrev TT : List (String × Array Value) := []
def k0 : Ls := (.cons .str (.one (.int .u64)))
def k1 : Ls := (.cons I (.one I))
def k2 : Ls := (.cons .str (.one (.int .u8)))
def k3 : Ls := (.cons I (.cons I (.one I)))
def k4 : Ls := (.cons .bool (.cons I (.one I)))
def k5 : Ls := (.cons I (.cons I (.cons .bool (.one (.int .u8)))))
def k6 : Ls := (.cons I (.cons I (.cons I (.one I))))
def k7 : Ls := (.cons I (.cons I (.cons I (.cons .bool (.one I)))))
def k8 : Ls := (.cons I (.cons I (.one (.sl 3 (.one I)))))
def k9 : Ls := (.cons I (.cons I (.one (.sl 144 k3))))
def k10 : Ls := (.cons I (.cons I (.one (.sl 270 k3))))
def k11 : Ls := (.cons (.sl 5 (.one (.int .u8))) (.cons I (.one I)))
def k12 : Ls := (.cons I (.cons I (.cons (.sl 236 k1) (.cons (.sl 97 k3) (.one I)))))
def k13 : Ls := (.cons I (.cons I (.cons (.sl 3 (.one I)) (.cons (.sl 118 k7) (.one (.sl 3 (.one I)))))))
def k14 : Ls := (.cons (.sl 3 (.one I)) (.cons I (.cons .bool (.cons I (.cons I (.cons I (.cons (.sl 3 (.one I)) (.one (.sl 201 k4)))))))))
def k15 : Ls := (.cons (.sl 3 (.one I)) (.cons I (.cons .bool (.cons I (.cons I (.cons I (.cons (.sl 3 (.one I)) (.one (.sl 179 k4)))))))))
def k16 : Ls := (.cons I (.one (.sl 90 k12)))
def k17 : Ls := (.cons I (.cons I (.cons (.sl 3 (.one I)) (.cons (.sl 118 k7) (.cons (.sl 22 (.one (.sl 3 (.one I)))) (.one (.sl 3 (.one I))))))))
def k18 : Ls := (.cons I (.cons I (.cons (.sl 3 (.one I)) (.cons (.sl 142 k9) (.cons I (.cons (.sl 90 k12) (.cons (.sl 118 k7) (.cons (.sl 95 k6) (.cons (.sl 3 (.one I)) (.cons (.sl 3 (.one I)) (.one I)))))))))))
def tbl : List (Nat × Ty) := [
  (3, ⟨false, (.one I), []⟩),
  (4, ⟨false, (.one .bool), []⟩),
  (22, ⟨false, (.one (.sl 3 (.one I))), []⟩),
  (23, ⟨false, (.one (.sl 201 k4)), []⟩),
  (25, ⟨true, k14, [(0, 22), (1, 3), (2, 4), (3, 3), (4, 3), (5, 3), (6, 22), (7, 23)]⟩),
  (27, ⟨false, (.one (.sl 179 k4)), []⟩),
  (29, ⟨true, k15, [(0, 22), (1, 3), (2, 4), (3, 3), (4, 3), (5, 3), (6, 22), (7, 27)]⟩),
  (179, ⟨true, k4, [(0, 4), (1, 3), (2, 3)]⟩),
  (201, ⟨true, k4, [(0, 4), (1, 3), (2, 3)]⟩)]
theorem tblOk : tbl.all (fun p => tyB Try.prog p.1 p.2) = true := by kernel_rfl
theorem follows : Try.prog.follows .mixedOrders = true := by kernel_rfl
-- laws_szIntS
def sm81 : Sm := ⟨[.val false [(.sl 3 (.one I))], .val false [I]], [(false, [(I, 0)])]⟩
def an81 : An := ⟨fun _ => none,
  fun _ => none,
  fun _ => none⟩
def s81 (n : Nat) : SmF := ⟨sm81, fun x => N.laws_szIntS x.1 x.2⟩
def env81 (n : Nat) : List (FuncId × SmF) := []
theorem ev81 (n : Nat) (x : sm81.ins.D) : evFn (find tbl) (find (env81 n)) an81 n Try.f81 sm81 x = N.laws_szIntS x.1 x.2 := by kernel_rfl
theorem ok81 (n : Nat) : FnOk Try.prog TT 81 (s81 n) := fn_native (an := an81) (n := n) Try.func81 rfl (by kernel_rfl) tblOk env_nil follows (ev81 n)
theorem body81 : HasBody Try.prog 81 := ⟨_, _, Try.func81, rfl, by kernel_rfl⟩

-- laws_szWordS
def sm82 : Sm := ⟨[.val false [(.sl 201 k4)], .val false [I]], [(false, [(I, 0)])]⟩
def an82 : An := ⟨fun _ => none,
  fun _ => none,
  fun _ => none⟩
def s82 (n : Nat) : SmF := ⟨sm82, fun x => N.laws_szWordS x.1 x.2⟩
def env82 (n : Nat) : List (FuncId × SmF) := []
theorem ev82 (n : Nat) (x : sm82.ins.D) : evFn (find tbl) (find (env82 n)) an82 n Try.f82 sm82 x = N.laws_szWordS x.1 x.2 := by kernel_rfl
theorem ok82 (n : Nat) : FnOk Try.prog TT 82 (s82 n) := fn_native (an := an82) (n := n) Try.func82 rfl (by kernel_rfl) tblOk env_nil follows (ev82 n)
theorem body82 : HasBody Try.prog 82 := ⟨_, _, Try.func82, rfl, by kernel_rfl⟩

-- laws_szLink
def sm13 : Sm := ⟨[.val true [(.sl 3 (.one I)), I, .bool, I, I, I, (.sl 3 (.one I)), (.sl 201 k4)], .val false [I]], [(false, [(I, 0)])]⟩
def an13 : An := ⟨fun _ => none,
  fun _ => none,
  fun _ => none⟩
def s13 (n : Nat) : SmF := ⟨sm13, fun x => N.laws_szLink x.1 x.2.1 x.2.2.1 x.2.2.2.1 x.2.2.2.2.1 x.2.2.2.2.2.1 x.2.2.2.2.2.2.1 x.2.2.2.2.2.2.2.1 x.2.2.2.2.2.2.2.2⟩
def env13 (n : Nat) : List (FuncId × SmF) := [(81, s81 n), (82, s82 n)]
theorem ev13 (n : Nat) (x : sm13.ins.D) : evFn (find tbl) (find (env13 n)) an13 n Try.f13 sm13 x = N.laws_szLink x.1 x.2.1 x.2.2.1 x.2.2.2.1 x.2.2.2.2.1 x.2.2.2.2.2.1 x.2.2.2.2.2.2.1 x.2.2.2.2.2.2.2.1 x.2.2.2.2.2.2.2.2 := by kernel_rfl
theorem ok13 (n : Nat) : FnOk Try.prog TT 13 (s13 n) := fn_native (an := an13) (n := n) Try.func13 rfl (by kernel_rfl) tblOk (env_cons (ok81 n) body81 (env_cons (ok82 n) body82 env_nil)) follows (ev13 n)
theorem body13 : HasBody Try.prog 13 := ⟨_, _, Try.func13, rfl, by kernel_rfl⟩

-- laws_toIntS
def sm87 : Sm := ⟨[.val false [(.sl 3 (.one I))]], [(false, [((.sl 3 (.one I)), 2)])]⟩
def an87 : An := ⟨fun _ => none,
  fun b => match b with
    | 0 => some ([.slot 4 I, .own 3 3 (.one I) 2 false], false)
    | _ => none,
  fun _ => none⟩
def s87 (n : Nat) : SmF := ⟨sm87, fun x => N.laws_toIntS n x⟩
def env87 (n : Nat) : List (FuncId × SmF) := []
theorem ev87 (n : Nat) (x : sm87.ins.D) : evFn (find tbl) (find (env87 n)) an87 n Try.f87 sm87 x = N.laws_toIntS n x := by kernel_rfl
theorem ok87 (n : Nat) : FnOk Try.prog TT 87 (s87 n) := fn_native (an := an87) (n := n) Try.func87 rfl (by kernel_rfl) tblOk env_nil follows (ev87 n)
theorem body87 : HasBody Try.prog 87 := ⟨_, _, Try.func87, rfl, by kernel_rfl⟩

-- laws_toWord
def sm176 : Sm := ⟨[.val true [.bool, I, I]], [(true, [(.bool, 0), (I, 0), (I, 0)])]⟩
def an176 : An := ⟨fun _ => none,
  fun _ => none,
  fun _ => none⟩
def s176 (n : Nat) : SmF := ⟨sm176, fun x => N.laws_toWord x.1 x.2.1 x.2.2⟩
def env176 (n : Nat) : List (FuncId × SmF) := []
theorem ev176 (n : Nat) (x : sm176.ins.D) : evFn (find tbl) (find (env176 n)) an176 n Try.f176 sm176 x = N.laws_toWord x.1 x.2.1 x.2.2 := by kernel_rfl
theorem ok176 (n : Nat) : FnOk Try.prog TT 176 (s176 n) := fn_native (an := an176) (n := n) Try.func176 rfl (by kernel_rfl) tblOk env_nil follows (ev176 n)
theorem body176 : HasBody Try.prog 176 := ⟨_, _, Try.func176, rfl, by kernel_rfl⟩

-- laws_toWordS
def sm88 : Sm := ⟨[.val false [(.sl 201 k4)]], [(false, [((.sl 179 k4), 2)])]⟩
def an88 : An := ⟨fun _ => none,
  fun b => match b with
    | 0 => some ([.slot 4 I, .own 3 179 k4 2 false], false)
    | _ => none,
  fun _ => none⟩
def s88 (n : Nat) : SmF := ⟨sm88, fun x => N.laws_toWordS n x⟩
def env88 (n : Nat) : List (FuncId × SmF) := [(176, s176 n)]
theorem ev88 (n : Nat) (x : sm88.ins.D) : evFn (find tbl) (find (env88 n)) an88 n Try.f88 sm88 x = N.laws_toWordS n x := by kernel_rfl
theorem ok88 (n : Nat) : FnOk Try.prog TT 88 (s88 n) := fn_native (an := an88) (n := n) Try.func88 rfl (by kernel_rfl) tblOk (env_cons (ok176 n) body176 env_nil) follows (ev88 n)
theorem body88 : HasBody Try.prog 88 := ⟨_, _, Try.func88, rfl, by kernel_rfl⟩

-- laws_toLink
def sm15 : Sm := ⟨[.val true [(.sl 3 (.one I)), I, .bool, I, I, I, (.sl 3 (.one I)), (.sl 201 k4)]], [(true, [((.sl 3 (.one I)), 2), (I, 0), (.bool, 0), (I, 0), (I, 0), (I, 0), ((.sl 3 (.one I)), 2), ((.sl 179 k4), 2)])]⟩
def an15 : An := ⟨fun _ => none,
  fun _ => none,
  fun _ => none⟩
def s15 (n : Nat) : SmF := ⟨sm15, fun x => N.laws_toLink n x.1 x.2.1 x.2.2.1 x.2.2.2.1 x.2.2.2.2.1 x.2.2.2.2.2.1 x.2.2.2.2.2.2.1 x.2.2.2.2.2.2.2⟩
def env15 (n : Nat) : List (FuncId × SmF) := [(87, s87 n), (88, s88 n)]
theorem ev15 (n : Nat) (x : sm15.ins.D) : evFn (find tbl) (find (env15 n)) an15 n Try.f15 sm15 x = N.laws_toLink n x.1 x.2.1 x.2.2.1 x.2.2.2.1 x.2.2.2.2.1 x.2.2.2.2.2.1 x.2.2.2.2.2.2.1 x.2.2.2.2.2.2.2 := by kernel_rfl
theorem ok15 (n : Nat) : FnOk Try.prog TT 15 (s15 n) := fn_native (an := an15) (n := n) Try.func15 rfl (by kernel_rfl) tblOk (env_cons (ok87 n) body87 (env_cons (ok88 n) body88 env_nil)) follows (ev15 n)
theorem body15 : HasBody Try.prog 15 := ⟨_, _, Try.func15, rfl, by kernel_rfl⟩

-- spec_l10Copy
def sm83 : Sm := ⟨[.val true [(.sl 3 (.one I)), I, .bool, I, I, I, (.sl 3 (.one I)), (.sl 179 k4)]], [(true, [((.sl 3 (.one I)), 2), (I, 0), (.bool, 0), (I, 0), (I, 0), (I, 0), ((.sl 3 (.one I)), 2), ((.sl 179 k4), 2)])]⟩
def an83 : An := ⟨fun _ => none,
  fun _ => none,
  fun _ => none⟩
def s83 (n : Nat) : SmF := ⟨sm83, fun x => N.spec_l10Copy x.1 x.2.1 x.2.2.1 x.2.2.2.1 x.2.2.2.2.1 x.2.2.2.2.2.1 x.2.2.2.2.2.2.1 x.2.2.2.2.2.2.2⟩
def env83 (n : Nat) : List (FuncId × SmF) := []
theorem ev83 (n : Nat) (x : sm83.ins.D) : evFn (find tbl) (find (env83 n)) an83 n Try.f83 sm83 x = N.spec_l10Copy x.1 x.2.1 x.2.2.1 x.2.2.2.1 x.2.2.2.2.1 x.2.2.2.2.2.1 x.2.2.2.2.2.2.1 x.2.2.2.2.2.2.2 := by kernel_rfl
theorem ok83 (n : Nat) : FnOk Try.prog TT 83 (s83 n) := fn_native (an := an83) (n := n) Try.func83 rfl (by kernel_rfl) tblOk env_nil follows (ev83 n)
theorem body83 : HasBody Try.prog 83 := ⟨_, _, Try.func83, rfl, by kernel_rfl⟩

-- spec_l1In
def sm102 : Sm := ⟨[.val false [I], .val false [I], .val false [I]], [(false, [(.bool, 0)])]⟩
def an102 : An := ⟨fun _ => none,
  fun _ => none,
  fun _ => none⟩
def s102 (n : Nat) : SmF := ⟨sm102, fun x => N.spec_l1In x.1 x.2.1 x.2.2⟩
def env102 (n : Nat) : List (FuncId × SmF) := []
theorem ev102 (n : Nat) (x : sm102.ins.D) : evFn (find tbl) (find (env102 n)) an102 n Try.f102 sm102 x = N.spec_l1In x.1 x.2.1 x.2.2 := by kernel_rfl
theorem ok102 (n : Nat) : FnOk Try.prog TT 102 (s102 n) := fn_native (an := an102) (n := n) Try.func102 rfl (by kernel_rfl) tblOk env_nil follows (ev102 n)
theorem body102 : HasBody Try.prog 102 := ⟨_, _, Try.func102, rfl, by kernel_rfl⟩

-- spec_l10Whats
def sm173 : Sm := ⟨[.val false [(.sl 3 (.one I))]], [(false, [(.bool, 0)])]⟩
def an173 : An := ⟨fun _ => none,
  fun b => match b with
    | 0 => some ([.slot 3 I], true)
    | _ => none,
  fun _ => none⟩
def s173 (n : Nat) : SmF := ⟨sm173, fun x => N.spec_l10Whats n x⟩
def env173 (n : Nat) : List (FuncId × SmF) := [(102, s102 n)]
theorem ev173 (n : Nat) (x : sm173.ins.D) : evFn (find tbl) (find (env173 n)) an173 n Try.f173 sm173 x = N.spec_l10Whats n x := by kernel_rfl
theorem ok173 (n : Nat) : FnOk Try.prog TT 173 (s173 n) := fn_native (an := an173) (n := n) Try.func173 rfl (by kernel_rfl) tblOk (env_cons (ok102 n) body102 env_nil) follows (ev173 n)
theorem body173 : HasBody Try.prog 173 := ⟨_, _, Try.func173, rfl, by kernel_rfl⟩

-- spec_LinkOk
def sm84 : Sm := ⟨[.val true [(.sl 3 (.one I)), I, .bool, I, I, I, (.sl 3 (.one I)), (.sl 179 k4)]], [(false, [(.bool, 0)])]⟩
def an84 : An := ⟨fun _ => none,
  fun b => match b with
    | 0 => some ([.slot 3 I], true)
    | _ => none,
  fun _ => none⟩
def s84 (n : Nat) : SmF := ⟨sm84, fun x => N.spec_LinkOk n x.1 x.2.1 x.2.2.1 x.2.2.2.1 x.2.2.2.2.1 x.2.2.2.2.2.1 x.2.2.2.2.2.2.1 x.2.2.2.2.2.2.2⟩
def env84 (n : Nat) : List (FuncId × SmF) := [(102, s102 n), (173, s173 n)]
theorem ev84 (n : Nat) (x : sm84.ins.D) : evFn (find tbl) (find (env84 n)) an84 n Try.f84 sm84 x = N.spec_LinkOk n x.1 x.2.1 x.2.2.1 x.2.2.2.1 x.2.2.2.2.1 x.2.2.2.2.2.1 x.2.2.2.2.2.2.1 x.2.2.2.2.2.2.2 := by kernel_rfl
theorem ok84 (n : Nat) : FnOk Try.prog TT 84 (s84 n) := fn_native (an := an84) (n := n) Try.func84 rfl (by kernel_rfl) tblOk (env_cons (ok102 n) body102 (env_cons (ok173 n) body173 env_nil)) follows (ev84 n)
theorem body84 : HasBody Try.prog 84 := ⟨_, _, Try.func84, rfl, by kernel_rfl⟩

-- spec_l10Says
def sm174 : Sm := ⟨[.box [((.sl 3 (.one I)), 2), (I, 0), (.bool, 0), (I, 0), (I, 0), (I, 0), ((.sl 3 (.one I)), 2), ((.sl 179 k4), 2)], .val true [.bool, I, I]], []⟩
def an174 : An := ⟨fun _ => none,
  fun _ => none,
  fun _ => none⟩
def s174 (n : Nat) : SmF := ⟨sm174, fun x => N.spec_l10Says x.1 x.2.1 x.2.2.1 x.2.2.2.1 x.2.2.2.2.1 x.2.2.2.2.2.1 x.2.2.2.2.2.2.1 x.2.2.2.2.2.2.2.1 x.2.2.2.2.2.2.2.2.1 x.2.2.2.2.2.2.2.2.2.1 x.2.2.2.2.2.2.2.2.2.2⟩
def env174 (n : Nat) : List (FuncId × SmF) := []
theorem ev174 (n : Nat) (x : sm174.ins.D) : evFn (find tbl) (find (env174 n)) an174 n Try.f174 sm174 x = N.spec_l10Says x.1 x.2.1 x.2.2.1 x.2.2.2.1 x.2.2.2.2.1 x.2.2.2.2.2.1 x.2.2.2.2.2.2.1 x.2.2.2.2.2.2.2.1 x.2.2.2.2.2.2.2.2.1 x.2.2.2.2.2.2.2.2.2.1 x.2.2.2.2.2.2.2.2.2.2 := by kernel_rfl
theorem ok174 (n : Nat) : FnOk Try.prog TT 174 (s174 n) := fn_native (an := an174) (n := n) Try.func174 rfl (by kernel_rfl) tblOk env_nil follows (ev174 n)
theorem body174 : HasBody Try.prog 174 := ⟨_, _, Try.func174, rfl, by kernel_rfl⟩

-- spec_l10Tick
def sm85 : Sm := ⟨[.box [((.sl 3 (.one I)), 2), (I, 0), (.bool, 0), (I, 0), (I, 0), (I, 0), ((.sl 3 (.one I)), 2), ((.sl 179 k4), 2)]], []⟩
def an85 : An := ⟨fun _ => none,
  fun _ => none,
  fun b => match b with
    | 3 => some ([.box 0 [some ((.sl 3 (.one I)), 2), some (I, 0), some (.bool, 0), some (I, 0), some (I, 0), some (I, 0), some ((.sl 3 (.one I)), 2), some ((.sl 179 k4), 2)]], false)
    | _ => none⟩
def s85 (n : Nat) : SmF := ⟨sm85, fun x => N.spec_l10Tick x.1 x.2.1 x.2.2.1 x.2.2.2.1 x.2.2.2.2.1 x.2.2.2.2.2.1 x.2.2.2.2.2.2.1 x.2.2.2.2.2.2.2⟩
def env85 (n : Nat) : List (FuncId × SmF) := [(174, s174 n)]
theorem ev85 (n : Nat) (x : sm85.ins.D) : evFn (find tbl) (find (env85 n)) an85 n Try.f85 sm85 x = N.spec_l10Tick x.1 x.2.1 x.2.2.1 x.2.2.2.1 x.2.2.2.2.1 x.2.2.2.2.2.1 x.2.2.2.2.2.2.1 x.2.2.2.2.2.2.2 := by kernel_rfl
theorem ok85 (n : Nat) : FnOk Try.prog TT 85 (s85 n) := fn_native (an := an85) (n := n) Try.func85 rfl (by kernel_rfl) tblOk (env_cons (ok174 n) body174 env_nil) follows (ev85 n)
theorem body85 : HasBody Try.prog 85 := ⟨_, _, Try.func85, rfl, by kernel_rfl⟩

-- spec_l10Hear
def sm175 : Sm := ⟨[.box [((.sl 3 (.one I)), 2), (I, 0), (.bool, 0), (I, 0), (I, 0), (I, 0), ((.sl 3 (.one I)), 2), ((.sl 179 k4), 2)], .val true [.bool, I, I]], []⟩
def an175 : An := ⟨fun _ => none,
  fun _ => none,
  fun b => match b with
    | 18 => some ([.box 0 [some ((.sl 3 (.one I)), 2), some (I, 0), some (.bool, 0), some (I, 0), some (I, 0), some (I, 0), some ((.sl 3 (.one I)), 2), some ((.sl 179 k4), 2)]], false)
    | _ => none⟩
def s175 (n : Nat) : SmF := ⟨sm175, fun x => N.spec_l10Hear x.1 x.2.1 x.2.2.1 x.2.2.2.1 x.2.2.2.2.1 x.2.2.2.2.2.1 x.2.2.2.2.2.2.1 x.2.2.2.2.2.2.2.1 x.2.2.2.2.2.2.2.2.1 x.2.2.2.2.2.2.2.2.2.1 x.2.2.2.2.2.2.2.2.2.2⟩
def env175 (n : Nat) : List (FuncId × SmF) := [(174, s174 n)]
theorem ev175 (n : Nat) (x : sm175.ins.D) : evFn (find tbl) (find (env175 n)) an175 n Try.f175 sm175 x = N.spec_l10Hear x.1 x.2.1 x.2.2.1 x.2.2.2.1 x.2.2.2.2.1 x.2.2.2.2.2.1 x.2.2.2.2.2.2.1 x.2.2.2.2.2.2.2.1 x.2.2.2.2.2.2.2.2.1 x.2.2.2.2.2.2.2.2.2.1 x.2.2.2.2.2.2.2.2.2.2 := by kernel_rfl
theorem ok175 (n : Nat) : FnOk Try.prog TT 175 (s175 n) := fn_native (an := an175) (n := n) Try.func175 rfl (by kernel_rfl) tblOk (env_cons (ok174 n) body174 env_nil) follows (ev175 n)
theorem body175 : HasBody Try.prog 175 := ⟨_, _, Try.func175, rfl, by kernel_rfl⟩

-- spec_l10Do
def sm86 : Sm := ⟨[.box [((.sl 3 (.one I)), 2), (I, 0), (.bool, 0), (I, 0), (I, 0), (I, 0), ((.sl 3 (.one I)), 2), ((.sl 179 k4), 2)], .val false [I], .val false [I]], [(false, [(.bool, 0)])]⟩
def an86 : An := ⟨fun _ => none,
  fun _ => none,
  fun b => match b with
    | 36 => some ([.box 0 [some ((.sl 3 (.one I)), 2), some (I, 0), some (.bool, 0), some (I, 0), some (I, 0), some (I, 0), some ((.sl 3 (.one I)), 2), some ((.sl 179 k4), 2)]], false)
    | _ => none⟩
def s86 (n : Nat) : SmF := ⟨sm86, fun x => N.spec_l10Do x.1 x.2.1 x.2.2.1 x.2.2.2.1 x.2.2.2.2.1 x.2.2.2.2.2.1 x.2.2.2.2.2.2.1 x.2.2.2.2.2.2.2.1 x.2.2.2.2.2.2.2.2.1 x.2.2.2.2.2.2.2.2.2⟩
def env86 (n : Nat) : List (FuncId × SmF) := [(85, s85 n), (102, s102 n), (175, s175 n)]
theorem ev86 (n : Nat) (x : sm86.ins.D) : evFn (find tbl) (find (env86 n)) an86 n Try.f86 sm86 x = N.spec_l10Do x.1 x.2.1 x.2.2.1 x.2.2.2.1 x.2.2.2.2.1 x.2.2.2.2.2.1 x.2.2.2.2.2.2.1 x.2.2.2.2.2.2.2.1 x.2.2.2.2.2.2.2.2.1 x.2.2.2.2.2.2.2.2.2 := by kernel_rfl
theorem ok86 (n : Nat) : FnOk Try.prog TT 86 (s86 n) := fn_native (an := an86) (n := n) Try.func86 rfl (by kernel_rfl) tblOk (env_cons (ok85 n) body85 (env_cons (ok102 n) body102 (env_cons (ok175 n) body175 env_nil))) follows (ev86 n)
theorem body86 : HasBody Try.prog 86 := ⟨_, _, Try.func86, rfl, by kernel_rfl⟩

-- spec_Calm
def sm14 : Sm := ⟨[.val true [(.sl 3 (.one I)), I, .bool, I, I, I, (.sl 3 (.one I)), (.sl 179 k4)]], [(true, [((.sl 3 (.one I)), 2), (I, 0), (.bool, 0), (I, 0), (I, 0), (I, 0), ((.sl 3 (.one I)), 2), ((.sl 179 k4), 2)])]⟩
def an14 : An := ⟨fun _ => none,
  fun b => match b with
    | 0 => some ([.slot 4 I, .box 3 [some ((.sl 3 (.one I)), 2), some (I, 0), some (.bool, 0), some (I, 0), some (I, 0), some (I, 0), some ((.sl 3 (.one I)), 2), some ((.sl 179 k4), 2)]], false)
    | 2 => some ([.slot 5 I, .box 3 [some ((.sl 3 (.one I)), 2), some (I, 0), some (.bool, 0), some (I, 0), some (I, 0), some (I, 0), some ((.sl 3 (.one I)), 2), some ((.sl 179 k4), 2)]], false)
    | _ => none,
  fun _ => none⟩
def s14 (n : Nat) : SmF := ⟨sm14, fun x => N.spec_Calm n x.1 x.2.1 x.2.2.1 x.2.2.2.1 x.2.2.2.2.1 x.2.2.2.2.2.1 x.2.2.2.2.2.2.1 x.2.2.2.2.2.2.2⟩
def env14 (n : Nat) : List (FuncId × SmF) := [(83, s83 n), (84, s84 n), (85, s85 n), (86, s86 n)]
theorem ev14 (n : Nat) (x : sm14.ins.D) : evFn (find tbl) (find (env14 n)) an14 n Try.f14 sm14 x = N.spec_Calm n x.1 x.2.1 x.2.2.1 x.2.2.2.1 x.2.2.2.2.1 x.2.2.2.2.2.1 x.2.2.2.2.2.2.1 x.2.2.2.2.2.2.2 := by kernel_rfl
theorem ok14 (n : Nat) : FnOk Try.prog TT 14 (s14 n) := fn_native (an := an14) (n := n) Try.func14 rfl (by kernel_rfl) tblOk (env_cons (ok83 n) body83 (env_cons (ok84 n) body84 (env_cons (ok85 n) body85 (env_cons (ok86 n) body86 env_nil)))) follows (ev14 n)
theorem body14 : HasBody Try.prog 14 := ⟨_, _, Try.func14, rfl, by kernel_rfl⟩

-- impl_copyInts
def sm177 : Sm := ⟨[.val false [(.sl 3 (.one I))]], [(false, [((.sl 3 (.one I)), 2)])]⟩
def an177 : An := ⟨fun _ => none,
  fun _ => none,
  fun _ => none⟩
def s177 (n : Nat) : SmF := ⟨sm177, fun x => N.impl_copyInts x⟩
def env177 (n : Nat) : List (FuncId × SmF) := []
theorem ev177 (n : Nat) (x : sm177.ins.D) : evFn (find tbl) (find (env177 n)) an177 n Try.f177 sm177 x = N.impl_copyInts x := by kernel_rfl
theorem ok177 (n : Nat) : FnOk Try.prog TT 177 (s177 n) := fn_native (an := an177) (n := n) Try.func177 rfl (by kernel_rfl) tblOk env_nil follows (ev177 n)
theorem body177 : HasBody Try.prog 177 := ⟨_, _, Try.func177, rfl, by kernel_rfl⟩

-- impl_copyLink
def sm89 : Sm := ⟨[.val true [(.sl 3 (.one I)), I, .bool, I, I, I, (.sl 3 (.one I)), (.sl 179 k4)]], [(true, [((.sl 3 (.one I)), 2), (I, 0), (.bool, 0), (I, 0), (I, 0), (I, 0), ((.sl 3 (.one I)), 2), ((.sl 179 k4), 2)])]⟩
def an89 : An := ⟨fun _ => none,
  fun _ => none,
  fun _ => none⟩
def s89 (n : Nat) : SmF := ⟨sm89, fun x => N.impl_copyLink x.1 x.2.1 x.2.2.1 x.2.2.2.1 x.2.2.2.2.1 x.2.2.2.2.2.1 x.2.2.2.2.2.2.1 x.2.2.2.2.2.2.2⟩
def env89 (n : Nat) : List (FuncId × SmF) := [(177, s177 n)]
theorem ev89 (n : Nat) (x : sm89.ins.D) : evFn (find tbl) (find (env89 n)) an89 n Try.f89 sm89 x = N.impl_copyLink x.1 x.2.1 x.2.2.1 x.2.2.2.1 x.2.2.2.2.1 x.2.2.2.2.2.1 x.2.2.2.2.2.2.1 x.2.2.2.2.2.2.2 := by kernel_rfl
theorem ok89 (n : Nat) : FnOk Try.prog TT 89 (s89 n) := fn_native (an := an89) (n := n) Try.func89 rfl (by kernel_rfl) tblOk (env_cons (ok177 n) body177 env_nil) follows (ev89 n)
theorem body89 : HasBody Try.prog 89 := ⟨_, _, Try.func89, rfl, by kernel_rfl⟩

-- impl_in
def sm147 : Sm := ⟨[.val false [I], .val false [I], .val false [I]], [(false, [(.bool, 0)])]⟩
def an147 : An := ⟨fun _ => none,
  fun _ => none,
  fun _ => none⟩
def s147 (n : Nat) : SmF := ⟨sm147, fun x => N.impl_in x.1 x.2.1 x.2.2⟩
def env147 (n : Nat) : List (FuncId × SmF) := []
theorem ev147 (n : Nat) (x : sm147.ins.D) : evFn (find tbl) (find (env147 n)) an147 n Try.f147 sm147 x = N.impl_in x.1 x.2.1 x.2.2 := by kernel_rfl
theorem ok147 (n : Nat) : FnOk Try.prog TT 147 (s147 n) := fn_native (an := an147) (n := n) Try.func147 rfl (by kernel_rfl) tblOk env_nil follows (ev147 n)
theorem body147 : HasBody Try.prog 147 := ⟨_, _, Try.func147, rfl, by kernel_rfl⟩

-- impl_whatsOk
def sm145 : Sm := ⟨[.val false [(.sl 3 (.one I))]], [(false, [(.bool, 0)])]⟩
def an145 : An := ⟨fun _ => none,
  fun b => match b with
    | 0 => some ([.slot 7 I], true)
    | _ => none,
  fun _ => none⟩
def s145 (n : Nat) : SmF := ⟨sm145, fun x => N.impl_whatsOk n x⟩
def env145 (n : Nat) : List (FuncId × SmF) := [(147, s147 n)]
theorem ev145 (n : Nat) (x : sm145.ins.D) : evFn (find tbl) (find (env145 n)) an145 n Try.f145 sm145 x = N.impl_whatsOk n x := by kernel_rfl
theorem ok145 (n : Nat) : FnOk Try.prog TT 145 (s145 n) := fn_native (an := an145) (n := n) Try.func145 rfl (by kernel_rfl) tblOk (env_cons (ok147 n) body147 env_nil) follows (ev145 n)
theorem body145 : HasBody Try.prog 145 := ⟨_, _, Try.func145, rfl, by kernel_rfl⟩

-- impl_airOk
def sm146 : Sm := ⟨[.val false [(.sl 179 k4)]], [(false, [(.bool, 0)])]⟩
def an146 : An := ⟨fun _ => none,
  fun b => match b with
    | 0 => some ([.slot 7 I], true)
    | _ => none,
  fun _ => none⟩
def s146 (n : Nat) : SmF := ⟨sm146, fun x => N.impl_airOk n x⟩
def env146 (n : Nat) : List (FuncId × SmF) := [(147, s147 n)]
theorem ev146 (n : Nat) (x : sm146.ins.D) : evFn (find tbl) (find (env146 n)) an146 n Try.f146 sm146 x = N.impl_airOk n x := by kernel_rfl
theorem ok146 (n : Nat) : FnOk Try.prog TT 146 (s146 n) := fn_native (an := an146) (n := n) Try.func146 rfl (by kernel_rfl) tblOk (env_cons (ok147 n) body147 env_nil) follows (ev146 n)
theorem body146 : HasBody Try.prog 146 := ⟨_, _, Try.func146, rfl, by kernel_rfl⟩

-- impl_LinkOk
def sm58 : Sm := ⟨[.val true [(.sl 3 (.one I)), I, .bool, I, I, I, (.sl 3 (.one I)), (.sl 179 k4)]], [(false, [(.bool, 0)])]⟩
def an58 : An := ⟨fun _ => none,
  fun _ => none,
  fun _ => none⟩
def s58 (n : Nat) : SmF := ⟨sm58, fun x => N.impl_LinkOk n x.1 x.2.1 x.2.2.1 x.2.2.2.1 x.2.2.2.2.1 x.2.2.2.2.2.1 x.2.2.2.2.2.2.1 x.2.2.2.2.2.2.2⟩
def env58 (n : Nat) : List (FuncId × SmF) := [(145, s145 n), (146, s146 n), (147, s147 n)]
theorem ev58 (n : Nat) (x : sm58.ins.D) : evFn (find tbl) (find (env58 n)) an58 n Try.f58 sm58 x = N.impl_LinkOk n x.1 x.2.1 x.2.2.1 x.2.2.2.1 x.2.2.2.2.1 x.2.2.2.2.2.1 x.2.2.2.2.2.2.1 x.2.2.2.2.2.2.2 := by kernel_rfl
theorem ok58 (n : Nat) : FnOk Try.prog TT 58 (s58 n) := fn_native (an := an58) (n := n) Try.func58 rfl (by kernel_rfl) tblOk (env_cons (ok145 n) body145 (env_cons (ok146 n) body146 (env_cons (ok147 n) body147 env_nil))) follows (ev58 n)
theorem body58 : HasBody Try.prog 58 := ⟨_, _, Try.func58, rfl, by kernel_rfl⟩

-- impl_Link_say
def sm149 : Sm := ⟨[.box [((.sl 3 (.one I)), 2), (I, 0), (.bool, 0), (I, 0), (I, 0), (I, 0), ((.sl 3 (.one I)), 2), ((.sl 179 k4), 2)], .val true [.bool, I, I]], []⟩
def an149 : An := ⟨fun _ => none,
  fun _ => none,
  fun _ => none⟩
def s149 (n : Nat) : SmF := ⟨sm149, fun x => N.impl_Link_say x.1 x.2.1 x.2.2.1 x.2.2.2.1 x.2.2.2.2.1 x.2.2.2.2.2.1 x.2.2.2.2.2.2.1 x.2.2.2.2.2.2.2.1 x.2.2.2.2.2.2.2.2.1 x.2.2.2.2.2.2.2.2.2.1 x.2.2.2.2.2.2.2.2.2.2⟩
def env149 (n : Nat) : List (FuncId × SmF) := []
theorem ev149 (n : Nat) (x : sm149.ins.D) : evFn (find tbl) (find (env149 n)) an149 n Try.f149 sm149 x = N.impl_Link_say x.1 x.2.1 x.2.2.1 x.2.2.2.1 x.2.2.2.2.1 x.2.2.2.2.2.1 x.2.2.2.2.2.2.1 x.2.2.2.2.2.2.2.1 x.2.2.2.2.2.2.2.2.1 x.2.2.2.2.2.2.2.2.2.1 x.2.2.2.2.2.2.2.2.2.2 := by kernel_rfl
theorem ok149 (n : Nat) : FnOk Try.prog TT 149 (s149 n) := fn_native (an := an149) (n := n) Try.func149 rfl (by kernel_rfl) tblOk env_nil follows (ev149 n)
theorem body149 : HasBody Try.prog 149 := ⟨_, _, Try.func149, rfl, by kernel_rfl⟩

-- impl_Link_tick
def sm90 : Sm := ⟨[.box [((.sl 3 (.one I)), 2), (I, 0), (.bool, 0), (I, 0), (I, 0), (I, 0), ((.sl 3 (.one I)), 2), ((.sl 179 k4), 2)]], []⟩
def an90 : An := ⟨fun _ => none,
  fun _ => none,
  fun b => match b with
    | 3 => some ([.box 0 [some ((.sl 3 (.one I)), 2), some (I, 0), some (.bool, 0), some (I, 0), some (I, 0), some (I, 0), some ((.sl 3 (.one I)), 2), some ((.sl 179 k4), 2)]], false)
    | 4 => some ([.box 0 [some ((.sl 3 (.one I)), 2), some (I, 0), some (.bool, 0), some (I, 0), some (I, 0), some (I, 0), some ((.sl 3 (.one I)), 2), some ((.sl 179 k4), 2)]], true)
    | _ => none⟩
def s90 (n : Nat) : SmF := ⟨sm90, fun x => N.impl_Link_tick x.1 x.2.1 x.2.2.1 x.2.2.2.1 x.2.2.2.2.1 x.2.2.2.2.2.1 x.2.2.2.2.2.2.1 x.2.2.2.2.2.2.2⟩
def env90 (n : Nat) : List (FuncId × SmF) := [(149, s149 n)]
theorem ev90 (n : Nat) (x : sm90.ins.D) : evFn (find tbl) (find (env90 n)) an90 n Try.f90 sm90 x = N.impl_Link_tick x.1 x.2.1 x.2.2.1 x.2.2.2.1 x.2.2.2.2.1 x.2.2.2.2.2.1 x.2.2.2.2.2.2.1 x.2.2.2.2.2.2.2 := by kernel_rfl
theorem ok90 (n : Nat) : FnOk Try.prog TT 90 (s90 n) := fn_native (an := an90) (n := n) Try.func90 rfl (by kernel_rfl) tblOk (env_cons (ok149 n) body149 env_nil) follows (ev90 n)
theorem body90 : HasBody Try.prog 90 := ⟨_, _, Try.func90, rfl, by kernel_rfl⟩

-- impl_Link_drop
def sm148 : Sm := ⟨[.box [((.sl 3 (.one I)), 2), (I, 0), (.bool, 0), (I, 0), (I, 0), (I, 0), ((.sl 3 (.one I)), 2), ((.sl 179 k4), 2)], .val false [I]], [(true, [(.bool, 0), (I, 0), (I, 0)])]⟩
def an148 : An := ⟨fun _ => none,
  fun _ => none,
  fun _ => none⟩
def s148 (n : Nat) : SmF := ⟨sm148, fun x => N.impl_Link_drop x.1 x.2.1 x.2.2.1 x.2.2.2.1 x.2.2.2.2.1 x.2.2.2.2.2.1 x.2.2.2.2.2.2.1 x.2.2.2.2.2.2.2.1 x.2.2.2.2.2.2.2.2⟩
def env148 (n : Nat) : List (FuncId × SmF) := []
theorem ev148 (n : Nat) (x : sm148.ins.D) : evFn (find tbl) (find (env148 n)) an148 n Try.f148 sm148 x = N.impl_Link_drop x.1 x.2.1 x.2.2.1 x.2.2.2.1 x.2.2.2.2.1 x.2.2.2.2.2.1 x.2.2.2.2.2.2.1 x.2.2.2.2.2.2.2.1 x.2.2.2.2.2.2.2.2 := by kernel_rfl
theorem ok148 (n : Nat) : FnOk Try.prog TT 148 (s148 n) := fn_native (an := an148) (n := n) Try.func148 rfl (by kernel_rfl) tblOk env_nil follows (ev148 n)
theorem body148 : HasBody Try.prog 148 := ⟨_, _, Try.func148, rfl, by kernel_rfl⟩

-- impl_Link_hear
def sm91 : Sm := ⟨[.box [((.sl 3 (.one I)), 2), (I, 0), (.bool, 0), (I, 0), (I, 0), (I, 0), ((.sl 3 (.one I)), 2), ((.sl 179 k4), 2)], .val false [I]], []⟩
def an91 : An := ⟨fun _ => none,
  fun _ => none,
  fun b => match b with
    | 18 => some ([.box 0 [some ((.sl 3 (.one I)), 2), some (I, 0), some (.bool, 0), some (I, 0), some (I, 0), some (I, 0), some ((.sl 3 (.one I)), 2), some ((.sl 179 k4), 2)]], false)
    | _ => none⟩
def s91 (n : Nat) : SmF := ⟨sm91, fun x => N.impl_Link_hear x.1 x.2.1 x.2.2.1 x.2.2.2.1 x.2.2.2.2.1 x.2.2.2.2.2.1 x.2.2.2.2.2.2.1 x.2.2.2.2.2.2.2.1 x.2.2.2.2.2.2.2.2⟩
def env91 (n : Nat) : List (FuncId × SmF) := [(148, s148 n), (149, s149 n), (177, s177 n)]
theorem ev91 (n : Nat) (x : sm91.ins.D) : evFn (find tbl) (find (env91 n)) an91 n Try.f91 sm91 x = N.impl_Link_hear x.1 x.2.1 x.2.2.1 x.2.2.2.1 x.2.2.2.2.1 x.2.2.2.2.2.1 x.2.2.2.2.2.2.1 x.2.2.2.2.2.2.2.1 x.2.2.2.2.2.2.2.2 := by kernel_rfl
theorem ok91 (n : Nat) : FnOk Try.prog TT 91 (s91 n) := fn_native (an := an91) (n := n) Try.func91 rfl (by kernel_rfl) tblOk (env_cons (ok148 n) body148 (env_cons (ok149 n) body149 (env_cons (ok177 n) body177 env_nil))) follows (ev91 n)
theorem body91 : HasBody Try.prog 91 := ⟨_, _, Try.func91, rfl, by kernel_rfl⟩

-- impl_Calm
def sm16 : Sm := ⟨[.val true [(.sl 3 (.one I)), I, .bool, I, I, I, (.sl 3 (.one I)), (.sl 179 k4)]], [(true, [((.sl 3 (.one I)), 2), (I, 0), (.bool, 0), (I, 0), (I, 0), (I, 0), ((.sl 3 (.one I)), 2), ((.sl 179 k4), 2)])]⟩
def an16 : An := ⟨fun _ => none,
  fun b => match b with
    | 0 => some ([.slot 4 I, .box 3 [some ((.sl 3 (.one I)), 2), some (I, 0), some (.bool, 0), some (I, 0), some (I, 0), some (I, 0), some ((.sl 3 (.one I)), 2), some ((.sl 179 k4), 2)]], false)
    | 2 => some ([.slot 5 I, .box 3 [some ((.sl 3 (.one I)), 2), some (I, 0), some (.bool, 0), some (I, 0), some (I, 0), some (I, 0), some ((.sl 3 (.one I)), 2), some ((.sl 179 k4), 2)]], false)
    | _ => none,
  fun _ => none⟩
def s16 (n : Nat) : SmF := ⟨sm16, fun x => N.impl_Calm n x.1 x.2.1 x.2.2.1 x.2.2.2.1 x.2.2.2.2.1 x.2.2.2.2.2.1 x.2.2.2.2.2.2.1 x.2.2.2.2.2.2.2⟩
def env16 (n : Nat) : List (FuncId × SmF) := [(58, s58 n), (89, s89 n), (90, s90 n), (91, s91 n)]
theorem ev16 (n : Nat) (x : sm16.ins.D) : evFn (find tbl) (find (env16 n)) an16 n Try.f16 sm16 x = N.impl_Calm n x.1 x.2.1 x.2.2.1 x.2.2.2.1 x.2.2.2.2.1 x.2.2.2.2.2.1 x.2.2.2.2.2.2.1 x.2.2.2.2.2.2.2 := by kernel_rfl
theorem ok16 (n : Nat) : FnOk Try.prog TT 16 (s16 n) := fn_native (an := an16) (n := n) Try.func16 rfl (by kernel_rfl) tblOk (env_cons (ok58 n) body58 (env_cons (ok89 n) body89 (env_cons (ok90 n) body90 (env_cons (ok91 n) body91 env_nil)))) follows (ev16 n)
theorem body16 : HasBody Try.prog 16 := ⟨_, _, Try.func16, rfl, by kernel_rfl⟩

-- laws_eqIntS
def sm92 : Sm := ⟨[.val false [(.sl 3 (.one I))], .val false [(.sl 3 (.one I))]], [(false, [(.bool, 0)])]⟩
def an92 : An := ⟨fun _ => none,
  fun b => match b with
    | 0 => some ([.slot 5 I], true)
    | _ => none,
  fun _ => none⟩
def s92 (n : Nat) : SmF := ⟨sm92, fun x => N.laws_eqIntS n x.1 x.2⟩
def env92 (n : Nat) : List (FuncId × SmF) := []
theorem ev92 (n : Nat) (x : sm92.ins.D) : evFn (find tbl) (find (env92 n)) an92 n Try.f92 sm92 x = N.laws_eqIntS n x.1 x.2 := by kernel_rfl
theorem ok92 (n : Nat) : FnOk Try.prog TT 92 (s92 n) := fn_native (an := an92) (n := n) Try.func92 rfl (by kernel_rfl) tblOk env_nil follows (ev92 n)
theorem body92 : HasBody Try.prog 92 := ⟨_, _, Try.func92, rfl, by kernel_rfl⟩

-- laws_eqWord
def sm178 : Sm := ⟨[.val true [.bool, I, I], .val true [.bool, I, I]], [(false, [(.bool, 0)])]⟩
def an178 : An := ⟨fun _ => none,
  fun _ => none,
  fun _ => none⟩
def s178 (n : Nat) : SmF := ⟨sm178, fun x => N.laws_eqWord x.1 x.2.1 x.2.2.1 x.2.2.2.1 x.2.2.2.2.1 x.2.2.2.2.2⟩
def env178 (n : Nat) : List (FuncId × SmF) := []
theorem ev178 (n : Nat) (x : sm178.ins.D) : evFn (find tbl) (find (env178 n)) an178 n Try.f178 sm178 x = N.laws_eqWord x.1 x.2.1 x.2.2.1 x.2.2.2.1 x.2.2.2.2.1 x.2.2.2.2.2 := by kernel_rfl
theorem ok178 (n : Nat) : FnOk Try.prog TT 178 (s178 n) := fn_native (an := an178) (n := n) Try.func178 rfl (by kernel_rfl) tblOk env_nil follows (ev178 n)
theorem body178 : HasBody Try.prog 178 := ⟨_, _, Try.func178, rfl, by kernel_rfl⟩

-- laws_eqWordS
def sm93 : Sm := ⟨[.val false [(.sl 179 k4)], .val false [(.sl 179 k4)]], [(false, [(.bool, 0)])]⟩
def an93 : An := ⟨fun _ => none,
  fun b => match b with
    | 0 => some ([.slot 5 I], true)
    | _ => none,
  fun _ => none⟩
def s93 (n : Nat) : SmF := ⟨sm93, fun x => N.laws_eqWordS n x.1 x.2⟩
def env93 (n : Nat) : List (FuncId × SmF) := [(178, s178 n)]
theorem ev93 (n : Nat) (x : sm93.ins.D) : evFn (find tbl) (find (env93 n)) an93 n Try.f93 sm93 x = N.laws_eqWordS n x.1 x.2 := by kernel_rfl
theorem ok93 (n : Nat) : FnOk Try.prog TT 93 (s93 n) := fn_native (an := an93) (n := n) Try.func93 rfl (by kernel_rfl) tblOk (env_cons (ok178 n) body178 env_nil) follows (ev93 n)
theorem body93 : HasBody Try.prog 93 := ⟨_, _, Try.func93, rfl, by kernel_rfl⟩

-- laws_eqLink
def sm17 : Sm := ⟨[.val true [(.sl 3 (.one I)), I, .bool, I, I, I, (.sl 3 (.one I)), (.sl 179 k4)], .val true [(.sl 3 (.one I)), I, .bool, I, I, I, (.sl 3 (.one I)), (.sl 179 k4)]], [(false, [(.bool, 0)])]⟩
def an17 : An := ⟨fun _ => none,
  fun _ => none,
  fun _ => none⟩
def s17 (n : Nat) : SmF := ⟨sm17, fun x => N.laws_eqLink n x.1 x.2.1 x.2.2.1 x.2.2.2.1 x.2.2.2.2.1 x.2.2.2.2.2.1 x.2.2.2.2.2.2.1 x.2.2.2.2.2.2.2.1 x.2.2.2.2.2.2.2.2.1 x.2.2.2.2.2.2.2.2.2.1 x.2.2.2.2.2.2.2.2.2.2.1 x.2.2.2.2.2.2.2.2.2.2.2.1 x.2.2.2.2.2.2.2.2.2.2.2.2.1 x.2.2.2.2.2.2.2.2.2.2.2.2.2.1 x.2.2.2.2.2.2.2.2.2.2.2.2.2.2.1 x.2.2.2.2.2.2.2.2.2.2.2.2.2.2.2⟩
def env17 (n : Nat) : List (FuncId × SmF) := [(92, s92 n), (93, s93 n)]
theorem ev17 (n : Nat) (x : sm17.ins.D) : evFn (find tbl) (find (env17 n)) an17 n Try.f17 sm17 x = N.laws_eqLink n x.1 x.2.1 x.2.2.1 x.2.2.2.1 x.2.2.2.2.1 x.2.2.2.2.2.1 x.2.2.2.2.2.2.1 x.2.2.2.2.2.2.2.1 x.2.2.2.2.2.2.2.2.1 x.2.2.2.2.2.2.2.2.2.1 x.2.2.2.2.2.2.2.2.2.2.1 x.2.2.2.2.2.2.2.2.2.2.2.1 x.2.2.2.2.2.2.2.2.2.2.2.2.1 x.2.2.2.2.2.2.2.2.2.2.2.2.2.1 x.2.2.2.2.2.2.2.2.2.2.2.2.2.2.1 x.2.2.2.2.2.2.2.2.2.2.2.2.2.2.2 := by kernel_rfl
theorem ok17 (n : Nat) : FnOk Try.prog TT 17 (s17 n) := fn_native (an := an17) (n := n) Try.func17 rfl (by kernel_rfl) tblOk (env_cons (ok92 n) body92 (env_cons (ok93 n) body93 env_nil)) follows (ev17 n)
theorem body17 : HasBody Try.prog 17 := ⟨_, _, Try.func17, rfl, by kernel_rfl⟩

-- laws_markIntS
def sm94 : Sm := ⟨[.row false [((.sl 3 (.one I)), 2)], .val false [I]], [(false, [(I, 0)])]⟩
def an94 : An := ⟨fun _ => none,
  fun b => match b with
    | 0 => some ([.slot 1 I, .slot 5 I, .own 0 3 (.one I) 2 true], false)
    | _ => none,
  fun _ => none⟩
def s94 (n : Nat) : SmF := ⟨sm94, fun x => N.laws_markIntS n x.1 x.2⟩
def env94 (n : Nat) : List (FuncId × SmF) := []
theorem ev94 (n : Nat) (x : sm94.ins.D) : evFn (find tbl) (find (env94 n)) an94 n Try.f94 sm94 x = N.laws_markIntS n x.1 x.2 := by kernel_rfl
theorem ok94 (n : Nat) : FnOk Try.prog TT 94 (s94 n) := fn_native (an := an94) (n := n) Try.func94 rfl (by kernel_rfl) tblOk env_nil follows (ev94 n)
theorem body94 : HasBody Try.prog 94 := ⟨_, _, Try.func94, rfl, by kernel_rfl⟩

-- laws_markWordS
def sm95 : Sm := ⟨[.row false [((.sl 179 k4), 2)], .val false [I]], [(false, [(I, 0)])]⟩
def an95 : An := ⟨fun _ => none,
  fun b => match b with
    | 0 => some ([.slot 1 I, .slot 5 I, .own 0 179 k4 2 true], false)
    | _ => none,
  fun _ => none⟩
def s95 (n : Nat) : SmF := ⟨sm95, fun x => N.laws_markWordS n x.1 x.2⟩
def env95 (n : Nat) : List (FuncId × SmF) := []
theorem ev95 (n : Nat) (x : sm95.ins.D) : evFn (find tbl) (find (env95 n)) an95 n Try.f95 sm95 x = N.laws_markWordS n x.1 x.2 := by kernel_rfl
theorem ok95 (n : Nat) : FnOk Try.prog TT 95 (s95 n) := fn_native (an := an95) (n := n) Try.func95 rfl (by kernel_rfl) tblOk env_nil follows (ev95 n)
theorem body95 : HasBody Try.prog 95 := ⟨_, _, Try.func95, rfl, by kernel_rfl⟩

-- laws_markLink
def sm18 : Sm := ⟨[.row true [((.sl 3 (.one I)), 2), (I, 0), (.bool, 0), (I, 0), (I, 0), (I, 0), ((.sl 3 (.one I)), 2), ((.sl 179 k4), 2)], .val false [I]], [(false, [(I, 0)])]⟩
def an18 : An := ⟨fun _ => none,
  fun _ => none,
  fun _ => none⟩
def s18 (n : Nat) : SmF := ⟨sm18, fun x => N.laws_markLink n x.1 x.2.1 x.2.2.1 x.2.2.2.1 x.2.2.2.2.1 x.2.2.2.2.2.1 x.2.2.2.2.2.2.1 x.2.2.2.2.2.2.2.1 x.2.2.2.2.2.2.2.2⟩
def env18 (n : Nat) : List (FuncId × SmF) := [(94, s94 n), (95, s95 n)]
theorem ev18 (n : Nat) (x : sm18.ins.D) : evFn (find tbl) (find (env18 n)) an18 n Try.f18 sm18 x = N.laws_markLink n x.1 x.2.1 x.2.2.1 x.2.2.2.1 x.2.2.2.2.1 x.2.2.2.2.2.1 x.2.2.2.2.2.2.1 x.2.2.2.2.2.2.2.1 x.2.2.2.2.2.2.2.2 := by kernel_rfl
theorem ok18 (n : Nat) : FnOk Try.prog TT 18 (s18 n) := fn_native (an := an18) (n := n) Try.func18 rfl (by kernel_rfl) tblOk (env_cons (ok94 n) body94 (env_cons (ok95 n) body95 env_nil)) follows (ev18 n)
theorem body18 : HasBody Try.prog 18 := ⟨_, _, Try.func18, rfl, by kernel_rfl⟩

-- laws_heldIntS
def sm96 : Sm := ⟨[.val false [(.sl 3 (.one I))], .val false [I]], [(false, [(I, 0)])]⟩
def an96 : An := ⟨fun _ => none,
  fun b => match b with
    | 0 => some ([.slot 1 I, .slot 5 I], true)
    | _ => none,
  fun _ => none⟩
def s96 (n : Nat) : SmF := ⟨sm96, fun x => N.laws_heldIntS n x.1 x.2⟩
def env96 (n : Nat) : List (FuncId × SmF) := []
theorem ev96 (n : Nat) (x : sm96.ins.D) : evFn (find tbl) (find (env96 n)) an96 n Try.f96 sm96 x = N.laws_heldIntS n x.1 x.2 := by kernel_rfl
theorem ok96 (n : Nat) : FnOk Try.prog TT 96 (s96 n) := fn_native (an := an96) (n := n) Try.func96 rfl (by kernel_rfl) tblOk env_nil follows (ev96 n)
theorem body96 : HasBody Try.prog 96 := ⟨_, _, Try.func96, rfl, by kernel_rfl⟩

-- laws_heldWordS
def sm97 : Sm := ⟨[.val false [(.sl 179 k4)], .val false [I]], [(false, [(I, 0)])]⟩
def an97 : An := ⟨fun _ => none,
  fun b => match b with
    | 0 => some ([.slot 1 I, .slot 5 I], true)
    | _ => none,
  fun _ => none⟩
def s97 (n : Nat) : SmF := ⟨sm97, fun x => N.laws_heldWordS n x.1 x.2⟩
def env97 (n : Nat) : List (FuncId × SmF) := []
theorem ev97 (n : Nat) (x : sm97.ins.D) : evFn (find tbl) (find (env97 n)) an97 n Try.f97 sm97 x = N.laws_heldWordS n x.1 x.2 := by kernel_rfl
theorem ok97 (n : Nat) : FnOk Try.prog TT 97 (s97 n) := fn_native (an := an97) (n := n) Try.func97 rfl (by kernel_rfl) tblOk env_nil follows (ev97 n)
theorem body97 : HasBody Try.prog 97 := ⟨_, _, Try.func97, rfl, by kernel_rfl⟩

-- laws_heldLink
def sm19 : Sm := ⟨[.val true [(.sl 3 (.one I)), I, .bool, I, I, I, (.sl 3 (.one I)), (.sl 179 k4)], .val false [I]], [(false, [(I, 0)])]⟩
def an19 : An := ⟨fun _ => none,
  fun _ => none,
  fun _ => none⟩
def s19 (n : Nat) : SmF := ⟨sm19, fun x => N.laws_heldLink n x.1 x.2.1 x.2.2.1 x.2.2.2.1 x.2.2.2.2.1 x.2.2.2.2.2.1 x.2.2.2.2.2.2.1 x.2.2.2.2.2.2.2.1 x.2.2.2.2.2.2.2.2⟩
def env19 (n : Nat) : List (FuncId × SmF) := [(96, s96 n), (97, s97 n)]
theorem ev19 (n : Nat) (x : sm19.ins.D) : evFn (find tbl) (find (env19 n)) an19 n Try.f19 sm19 x = N.laws_heldLink n x.1 x.2.1 x.2.2.1 x.2.2.2.1 x.2.2.2.2.1 x.2.2.2.2.2.1 x.2.2.2.2.2.2.1 x.2.2.2.2.2.2.2.1 x.2.2.2.2.2.2.2.2 := by kernel_rfl
theorem ok19 (n : Nat) : FnOk Try.prog TT 19 (s19 n) := fn_native (an := an19) (n := n) Try.func19 rfl (by kernel_rfl) tblOk (env_cons (ok96 n) body96 (env_cons (ok97 n) body97 env_nil)) follows (ev19 n)
theorem body19 : HasBody Try.prog 19 := ⟨_, _, Try.func19, rfl, by kernel_rfl⟩

-- laws_FnExactCalm
def sm3 : Sm := ⟨[.val true [(.sl 3 (.one I)), I, .bool, I, I, I, (.sl 3 (.one I)), (.sl 201 k4)]], [(false, [(.bool, 0)])]⟩
def an3 : An := ⟨fun _ => none,
  fun _ => none,
  fun _ => none⟩
def s3 (n : Nat) : SmF := ⟨sm3, fun x => N.laws_FnExactCalm n x.1 x.2.1 x.2.2.1 x.2.2.2.1 x.2.2.2.2.1 x.2.2.2.2.2.1 x.2.2.2.2.2.2.1 x.2.2.2.2.2.2.2⟩
def env3 (n : Nat) : List (FuncId × SmF) := [(13, s13 n), (14, s14 n), (15, s15 n), (16, s16 n), (17, s17 n), (18, s18 n), (19, s19 n)]
theorem ev3 (n : Nat) (x : sm3.ins.D) : evFn (find tbl) (find (env3 n)) an3 n Try.f3 sm3 x = N.laws_FnExactCalm n x.1 x.2.1 x.2.2.1 x.2.2.2.1 x.2.2.2.2.1 x.2.2.2.2.2.1 x.2.2.2.2.2.2.1 x.2.2.2.2.2.2.2 := by kernel_rfl
theorem ok3 (n : Nat) : FnOk Try.prog TT 3 (s3 n) := fn_native (an := an3) (n := n) Try.func3 rfl (by kernel_rfl) tblOk (env_cons (ok13 n) body13 (env_cons (ok14 n) body14 (env_cons (ok15 n) body15 (env_cons (ok16 n) body16 (env_cons (ok17 n) body17 (env_cons (ok18 n) body18 (env_cons (ok19 n) body19 env_nil))))))) follows (ev3 n)
theorem body3 : HasBody Try.prog 3 := ⟨_, _, Try.func3, rfl, by kernel_rfl⟩
end Go.Proofs.Ytjbfgbgibmebfaa.Ev
