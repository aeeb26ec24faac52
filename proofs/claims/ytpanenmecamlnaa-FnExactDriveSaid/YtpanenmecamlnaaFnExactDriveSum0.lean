/- Tables of types; summaries of the functions. Conditions: none. -/
import Derived.Test.YtpanenmecamlnaaLib5
import Derived.Test.YtpanenmecamlnaaFnExactDriveSort
import Derived.Test.YtpanenmecamlnaaFnExactDriveNat
import Derived.Test.YtpanenmecamlnaaProg
import Derived.KernelRfl
namespace Go.Proofs.Ytpanenmecamlnaa.Ev
open Go Go.Ev Go.Proofs
set_option linter.unusedVariables false
set_option maxRecDepth 100000

abbrev I : L := .int .i64
/-- Package-level variables that are looked at. -/
abbrev TT : List (String × Array Value) := []
def k0 : Ls := (.cons .str (.one (.int .u64)))
def k1 : Ls := (.cons I (.one I))
def k2 : Ls := (.cons .str (.one (.int .u8)))
def k3 : Ls := (.cons I (.cons I (.one I)))
def k4 : Ls := (.cons I (.cons I (.cons .bool (.one (.int .u8)))))
def k5 : Ls := (.cons I (.cons I (.cons I (.one I))))
def k6 : Ls := (.cons I (.cons I (.cons I (.cons .bool (.one I)))))
def k7 : Ls := (.cons I (.cons I (.one (.sl 3 (.one I)))))
def k8 : Ls := (.cons I (.cons I (.one (.sl 127 k3))))
def k9 : Ls := (.cons (.sl 5 (.one (.int .u8))) (.cons I (.one I)))
def k10 : Ls := (.cons I (.cons I (.one (.sl 256 k3))))
def k11 : Ls := (.cons I (.cons I (.cons (.sl 69 k1) (.cons (.sl 35 k3) (.one I)))))
def k12 : Ls := (.cons I (.cons I (.cons (.sl 3 (.one I)) (.cons (.sl 55 k6) (.one (.sl 3 (.one I)))))))
def k13 : Ls := (.cons I (.one (.sl 27 k11)))
def k14 : Ls := (.cons I (.cons I (.cons (.sl 3 (.one I)) (.cons (.sl 55 k6) (.cons (.sl 36 (.one (.sl 3 (.one I)))) (.one (.sl 3 (.one I))))))))
def k15 : Ls := (.cons I (.cons I (.cons (.sl 3 (.one I)) (.cons (.sl 122 k8) (.cons I (.cons (.sl 27 k11) (.cons (.sl 55 k6) (.cons (.sl 33 k5) (.cons (.sl 3 (.one I)) (.cons (.sl 3 (.one I)) (.one I)))))))))))
def tbl : List (Nat × Ty) := [
  (3, ⟨false, (.one I), [], false⟩),
  (4, ⟨false, (.one .bool), [], false⟩),
  (36, ⟨false, (.one (.sl 3 (.one I))), [], false⟩),
  (39, ⟨true, k7, [(0, 3), (1, 3), (2, 36)], false⟩),
  (48, ⟨false, (.one (.sl 55 k6)), [], false⟩),
  (55, ⟨true, k6, [(0, 3), (1, 3), (2, 3), (3, 4), (4, 3)], true⟩),
  (74, ⟨true, k7, [(0, 3), (1, 3), (2, 36)], false⟩),
  (75, ⟨false, (.one (.sl 150 k6)), [], false⟩),
  (86, ⟨false, (.one (.sl 4 (.one .bool))), [], false⟩),
  (150, ⟨true, k6, [(0, 3), (1, 3), (2, 3), (3, 4), (4, 3)], true⟩),
  (163, ⟨false, (.one (.sl 36 (.one (.sl 3 (.one I))))), [], false⟩),
  (195, ⟨true, k12, [(0, 39), (3, 48), (4, 36)], false⟩),
  (222, ⟨true, k14, [(0, 39), (3, 48), (4, 163), (5, 36)], false⟩)]
theorem tblOk : tbl.all (fun p => tyB Try.prog p.1 p.2) = true := by kernel_rfl
theorem follows : Try.prog.follows .mixedOrders = true := by kernel_rfl
-- laws_szIntS
def sm114 : Sm := ⟨[.val false [(.sl 3 (.one I))], .val false [I]], [(false, [(I, 0)])]⟩
def an114 : An := ⟨fun _ => none,
  fun _ => none,
  fun _ => none,
  fun _ => []⟩
def s114 (n : Nat) : SmF := ⟨sm114, fun x => N.laws_szIntS x.1 x.2⟩
def env114 (n : Nat) : List (FuncId × SmF) := []
theorem body114 : HasBody Try.prog 114 := ⟨_, _, Try.func114, rfl, by kernel_rfl⟩
theorem ev114 (n : Nat) (x : sm114.ins.D) : evFn (find tbl) (plain (env114 n)) an114 n Try.f114 sm114 x = N.laws_szIntS x.1 x.2 := by kernel_rfl
theorem ok114 (n : Nat) : FnOk Try.prog TT 114 (s114 n) := fn_native (an := an114) (n := n) Try.func114 rfl (by kernel_rfl) tblOk (env_plain env_nil) follows (ev114 n)

-- laws_szFloor
def sm32 : Sm := ⟨[.val true [I, I, (.sl 3 (.one I))], .val false [I]], [(false, [(I, 0)])]⟩
def an32 : An := ⟨fun _ => none,
  fun _ => none,
  fun _ => none,
  fun _ => []⟩
def s32 (n : Nat) : SmF := ⟨sm32, fun x => N.laws_szFloor x.1 x.2.1 x.2.2.1 x.2.2.2⟩
def env32 (n : Nat) : List (FuncId × SmF) := [(114, s114 n)]
theorem body32 : HasBody Try.prog 32 := ⟨_, _, Try.func32, rfl, by kernel_rfl⟩
theorem ev32 (n : Nat) (x : sm32.ins.D) : evFn (find tbl) (plain (env32 n)) an32 n Try.f32 sm32 x = N.laws_szFloor x.1 x.2.1 x.2.2.1 x.2.2.2 := by kernel_rfl
theorem ok32 (n : Nat) : FnOk Try.prog TT 32 (s32 n) := fn_native (an := an32) (n := n) Try.func32 rfl (by kernel_rfl) tblOk (env_plain (env_cons (ok114 n) body114 env_nil)) follows (ev32 n)

-- laws_szRobotS
def sm33 : Sm := ⟨[.val false [(.sl 150 k6)], .val false [I]], [(false, [(I, 0)])]⟩
def an33 : An := ⟨fun _ => none,
  fun _ => none,
  fun _ => none,
  fun _ => []⟩
def s33 (n : Nat) : SmF := ⟨sm33, fun x => N.laws_szRobotS x.1 x.2⟩
def env33 (n : Nat) : List (FuncId × SmF) := []
theorem body33 : HasBody Try.prog 33 := ⟨_, _, Try.func33, rfl, by kernel_rfl⟩
theorem ev33 (n : Nat) (x : sm33.ins.D) : evFn (find tbl) (plain (env33 n)) an33 n Try.f33 sm33 x = N.laws_szRobotS x.1 x.2 := by kernel_rfl
theorem ok33 (n : Nat) : FnOk Try.prog TT 33 (s33 n) := fn_native (an := an33) (n := n) Try.func33 rfl (by kernel_rfl) tblOk (env_plain env_nil) follows (ev33 n)

-- laws_toIntS
def sm116 : Sm := ⟨[.val false [(.sl 3 (.one I))]], [(false, [((.sl 3 (.one I)), 2)])]⟩
def an116 : An := ⟨fun _ => none,
  fun b => match b with
    | 0 => some ([.slot 4 I, .own 3 3 (.one I) 2 false], false)
    | _ => none,
  fun _ => none,
  fun _ => []⟩
def s116 (n : Nat) : SmF := ⟨sm116, fun x => N.laws_toIntS n x⟩
def env116 (n : Nat) : List (FuncId × SmF) := []
theorem body116 : HasBody Try.prog 116 := ⟨_, _, Try.func116, rfl, by kernel_rfl⟩
theorem ev116 (n : Nat) (x : sm116.ins.D) : evFn (find tbl) (plain (env116 n)) an116 n Try.f116 sm116 x = N.laws_toIntS n x := by kernel_rfl
theorem ok116 (n : Nat) : FnOk Try.prog TT 116 (s116 n) := fn_native (an := an116) (n := n) Try.func116 rfl (by kernel_rfl) tblOk (env_plain env_nil) follows (ev116 n)

-- laws_toFloor
def sm35 : Sm := ⟨[.val true [I, I, (.sl 3 (.one I))]], [(true, [(I, 0), (I, 0), ((.sl 3 (.one I)), 2)])]⟩
def an35 : An := ⟨fun _ => none,
  fun _ => none,
  fun _ => none,
  fun _ => []⟩
def s35 (n : Nat) : SmF := ⟨sm35, fun x => N.laws_toFloor n x.1 x.2.1 x.2.2⟩
def env35 (n : Nat) : List (FuncId × SmF) := [(116, s116 n)]
theorem body35 : HasBody Try.prog 35 := ⟨_, _, Try.func35, rfl, by kernel_rfl⟩
theorem ev35 (n : Nat) (x : sm35.ins.D) : evFn (find tbl) (plain (env35 n)) an35 n Try.f35 sm35 x = N.laws_toFloor n x.1 x.2.1 x.2.2 := by kernel_rfl
theorem ok35 (n : Nat) : FnOk Try.prog TT 35 (s35 n) := fn_native (an := an35) (n := n) Try.func35 rfl (by kernel_rfl) tblOk (env_plain (env_cons (ok116 n) body116 env_nil)) follows (ev35 n)

-- laws_toRobot
def sm117 : Sm := ⟨[.val true [I, I, I, .bool, I]], [(true, [(I, 0), (I, 0), (I, 0), (.bool, 0), (I, 0)])]⟩
def an117 : An := ⟨fun _ => none,
  fun _ => none,
  fun _ => none,
  fun _ => []⟩
def s117 (n : Nat) : SmF := ⟨sm117, fun x => N.laws_toRobot x.1 x.2.1 x.2.2.1 x.2.2.2.1 x.2.2.2.2⟩
def env117 (n : Nat) : List (FuncId × SmF) := []
theorem body117 : HasBody Try.prog 117 := ⟨_, _, Try.func117, rfl, by kernel_rfl⟩
theorem ev117 (n : Nat) (x : sm117.ins.D) : evFn (find tbl) (plain (env117 n)) an117 n Try.f117 sm117 x = N.laws_toRobot x.1 x.2.1 x.2.2.1 x.2.2.2.1 x.2.2.2.2 := by kernel_rfl
theorem ok117 (n : Nat) : FnOk Try.prog TT 117 (s117 n) := fn_native (an := an117) (n := n) Try.func117 rfl (by kernel_rfl) tblOk (env_plain env_nil) follows (ev117 n)

-- laws_toRobotS
def sm36 : Sm := ⟨[.val false [(.sl 150 k6)]], [(false, [((.sl 55 k6), 2)])]⟩
def an36 : An := ⟨fun _ => none,
  fun b => match b with
    | 0 => some ([.slot 4 I, .own 3 55 k6 2 false], false)
    | _ => none,
  fun _ => none,
  fun _ => []⟩
def s36 (n : Nat) : SmF := ⟨sm36, fun x => N.laws_toRobotS n x⟩
def env36 (n : Nat) : List (FuncId × SmF) := [(117, s117 n)]
theorem body36 : HasBody Try.prog 36 := ⟨_, _, Try.func36, rfl, by kernel_rfl⟩
theorem ev36 (n : Nat) (x : sm36.ins.D) : evFn (find tbl) (plain (env36 n)) an36 n Try.f36 sm36 x = N.laws_toRobotS n x := by kernel_rfl
theorem ok36 (n : Nat) : FnOk Try.prog TT 36 (s36 n) := fn_native (an := an36) (n := n) Try.func36 rfl (by kernel_rfl) tblOk (env_plain (env_cons (ok117 n) body117 env_nil)) follows (ev36 n)

-- spec_l9There
def sm124 : Sm := ⟨[.val true [I, I, I, .bool, I]], [(false, [(.bool, 0)])]⟩
def an124 : An := ⟨fun _ => none,
  fun _ => none,
  fun _ => none,
  fun _ => []⟩
def s124 (n : Nat) : SmF := ⟨sm124, fun x => N.spec_l9There x.1 x.2.1 x.2.2.1 x.2.2.2.1 x.2.2.2.2⟩
def env124 (n : Nat) : List (FuncId × SmF) := []
theorem body124 : HasBody Try.prog 124 := ⟨_, _, Try.func124, rfl, by kernel_rfl⟩
theorem ev124 (n : Nat) (x : sm124.ins.D) : evFn (find tbl) (plain (env124 n)) an124 n Try.f124 sm124 x = N.spec_l9There x.1 x.2.1 x.2.2.1 x.2.2.2.1 x.2.2.2.2 := by kernel_rfl
theorem ok124 (n : Nat) : FnOk Try.prog TT 124 (s124 n) := fn_native (an := an124) (n := n) Try.func124 rfl (by kernel_rfl) tblOk (env_plain env_nil) follows (ev124 n)

-- spec_l1In
def sm84 : Sm := ⟨[.val false [I], .val false [I], .val false [I]], [(false, [(.bool, 0)])]⟩
def an84 : An := ⟨fun _ => none,
  fun _ => none,
  fun _ => none,
  fun _ => []⟩
def s84 (n : Nat) : SmF := ⟨sm84, fun x => N.spec_l1In x.1 x.2.1 x.2.2⟩
def env84 (n : Nat) : List (FuncId × SmF) := []
theorem body84 : HasBody Try.prog 84 := ⟨_, _, Try.func84, rfl, by kernel_rfl⟩
theorem ev84 (n : Nat) (x : sm84.ins.D) : evFn (find tbl) (plain (env84 n)) an84 n Try.f84 sm84 x = N.spec_l1In x.1 x.2.1 x.2.2 := by kernel_rfl
theorem ok84 (n : Nat) : FnOk Try.prog TT 84 (s84 n) := fn_native (an := an84) (n := n) Try.func84 rfl (by kernel_rfl) tblOk (env_plain env_nil) follows (ev84 n)

-- spec_FloorOk
def sm73 : Sm := ⟨[.val true [I, I, (.sl 3 (.one I))]], [(false, [(.bool, 0)])]⟩
def an73 : An := ⟨fun _ => none,
  fun b => match b with
    | 0 => some ([.slot 3 I], true)
    | _ => none,
  fun _ => none,
  fun _ => []⟩
def s73 (n : Nat) : SmF := ⟨sm73, fun x => N.spec_FloorOk n x.1 x.2.1 x.2.2⟩
def env73 (n : Nat) : List (FuncId × SmF) := [(84, s84 n)]
theorem body73 : HasBody Try.prog 73 := ⟨_, _, Try.func73, rfl, by kernel_rfl⟩
theorem ev73 (n : Nat) (x : sm73.ins.D) : evFn (find tbl) (plain (env73 n)) an73 n Try.f73 sm73 x = N.spec_FloorOk n x.1 x.2.1 x.2.2 := by kernel_rfl
theorem ok73 (n : Nat) : FnOk Try.prog TT 73 (s73 n) := fn_native (an := an73) (n := n) Try.func73 rfl (by kernel_rfl) tblOk (env_plain (env_cons (ok84 n) body84 env_nil)) follows (ev73 n)

-- spec_l7Free
def sm138 : Sm := ⟨[.val true [I, I, (.sl 3 (.one I))], .val false [I]], [(false, [(.bool, 0)])]⟩
def an138 : An := ⟨fun _ => none,
  fun _ => none,
  fun _ => none,
  fun _ => []⟩
def s138 (n : Nat) : SmF := ⟨sm138, fun x => N.spec_l7Free x.1 x.2.1 x.2.2.1 x.2.2.2⟩
def env138 (n : Nat) : List (FuncId × SmF) := [(84, s84 n)]
theorem body138 : HasBody Try.prog 138 := ⟨_, _, Try.func138, rfl, by kernel_rfl⟩
theorem ev138 (n : Nat) (x : sm138.ins.D) : evFn (find tbl) (plain (env138 n)) an138 n Try.f138 sm138 x = N.spec_l7Free x.1 x.2.1 x.2.2.1 x.2.2.2 := by kernel_rfl
theorem ok138 (n : Nat) : FnOk Try.prog TT 138 (s138 n) := fn_native (an := an138) (n := n) Try.func138 rfl (by kernel_rfl) tblOk (env_plain (env_cons (ok84 n) body84 env_nil)) follows (ev138 n)

-- spec_CrewOk
def sm53 : Sm := ⟨[.val true [I, I, (.sl 3 (.one I))], .val false [(.sl 55 k6)]], [(false, [(.bool, 0)])]⟩
def an53 : An := ⟨fun _ => none,
  fun b => match b with
    | 0 => some ([.slot 5 I], true)
    | 2 => some ([.slot 7 I], true)
    | _ => none,
  fun _ => none,
  fun _ => []⟩
def s53 (n : Nat) : SmF := ⟨sm53, fun x => N.spec_CrewOk n x.1 x.2.1 x.2.2.1 x.2.2.2⟩
def env53 (n : Nat) : List (FuncId × SmF) := [(73, s73 n), (84, s84 n), (138, s138 n)]
theorem body53 : HasBody Try.prog 53 := ⟨_, _, Try.func53, rfl, by kernel_rfl⟩
theorem ev53 (n : Nat) (x : sm53.ins.D) : evFn (find tbl) (plain (env53 n)) an53 n Try.f53 sm53 x = N.spec_CrewOk n x.1 x.2.1 x.2.2.1 x.2.2.2 := by kernel_rfl
theorem ok53 (n : Nat) : FnOk Try.prog TT 53 (s53 n) := fn_native (an := an53) (n := n) Try.func53 rfl (by kernel_rfl) tblOk (env_plain (env_cons (ok73 n) body73 (env_cons (ok84 n) body84 (env_cons (ok138 n) body138 env_nil)))) follows (ev53 n)

-- spec_l1Beside
def sm244 : Sm := ⟨[.val true [I, I, (.sl 3 (.one I))], .val false [I]], [(false, [((.sl 3 (.one I)), 2)])]⟩
def an244 : An := ⟨fun _ => none,
  fun _ => none,
  fun b => match b with
    | 15 => some ([.own 5 3 (.one I) 2 false], false)
    | 21 => some ([.own 5 3 (.one I) 2 false], false)
    | 27 => some ([.own 5 3 (.one I) 2 false], false)
    | 33 => some ([.own 5 3 (.one I) 2 false], false)
    | _ => none,
  fun _ => []⟩
def s244 (n : Nat) : SmF := ⟨sm244, fun x => N.spec_l1Beside x.1 x.2.1 x.2.2.1 x.2.2.2⟩
def env244 (n : Nat) : List (FuncId × SmF) := []
theorem body244 : HasBody Try.prog 244 := ⟨_, _, Try.func244, rfl, by kernel_rfl⟩
theorem ev244 (n : Nat) (x : sm244.ins.D) : evFn (find tbl) (plain (env244 n)) an244 n Try.f244 sm244 x = N.spec_l1Beside x.1 x.2.1 x.2.2.1 x.2.2.2 := by kernel_rfl
theorem ok244 (n : Nat) : FnOk Try.prog TT 244 (s244 n) := fn_native (an := an244) (n := n) Try.func244 rfl (by kernel_rfl) tblOk (env_plain env_nil) follows (ev244 n)

-- spec_l1Near
def sm231 : Sm := ⟨[.val true [I, I, (.sl 3 (.one I))], .val false [I], .val false [.bool]], [(false, [((.sl 3 (.one I)), 2)])]⟩
def an231 : An := ⟨fun _ => none,
  fun b => match b with
    | 0 => some ([.own 7 3 (.one I) 2 false, .slot 9 I], false)
    | _ => none,
  fun b => match b with
    | 7 => some ([.own 7 3 (.one I) 2 false], false)
    | _ => none,
  fun _ => []⟩
def s231 (n : Nat) : SmF := ⟨sm231, fun x => N.spec_l1Near n x.1 x.2.1 x.2.2.1 x.2.2.2.1 x.2.2.2.2⟩
def env231 (n : Nat) : List (FuncId × SmF) := [(244, s244 n)]
theorem body231 : HasBody Try.prog 231 := ⟨_, _, Try.func231, rfl, by kernel_rfl⟩
theorem ev231 (n : Nat) (x : sm231.ins.D) : evFn (find tbl) (plain (env231 n)) an231 n Try.f231 sm231 x = N.spec_l1Near n x.1 x.2.1 x.2.2.1 x.2.2.2.1 x.2.2.2.2 := by kernel_rfl
theorem ok231 (n : Nat) : FnOk Try.prog TT 231 (s231 n) := fn_native (an := an231) (n := n) Try.func231 rfl (by kernel_rfl) tblOk (env_plain (env_cons (ok244 n) body244 env_nil)) follows (ev231 n)

-- spec_l2Field
def sm218 : Sm := ⟨[.val true [I, I, (.sl 3 (.one I))], .val false [I], .val false [.bool]], [(false, [((.sl 3 (.one I)), 2)])]⟩
def an218 : An := ⟨fun _ => none,
  fun b => match b with
    | 0 => some ([.own 7 3 (.one I) 2 false, .slot 8 I], false)
    | 2 => some ([.own 9 3 (.one I) 2 false, .slot 10 I, .own 7 3 (.one I) 2 false], false)
    | 4 => some ([.own 9 3 (.one I) 2 false, .slot 13 I, .own 7 3 (.one I) 2 false], false)
    | _ => none,
  fun b => match b with
    | 13 => some ([.own 9 3 (.one I) 2 false, .own 7 3 (.one I) 2 false], false)
    | 19 => some ([.own 9 3 (.one I) 2 false, .own 7 3 (.one I) 2 false], false)
    | _ => none,
  fun _ => []⟩
def s218 (n : Nat) : SmF := ⟨sm218, fun x => N.spec_l2Field n x.1 x.2.1 x.2.2.1 x.2.2.2.1 x.2.2.2.2⟩
def env218 (n : Nat) : List (FuncId × SmF) := [(231, s231 n)]
theorem body218 : HasBody Try.prog 218 := ⟨_, _, Try.func218, rfl, by kernel_rfl⟩
theorem ev218 (n : Nat) (x : sm218.ins.D) : evFn (find tbl) (plain (env218 n)) an218 n Try.f218 sm218 x = N.spec_l2Field n x.1 x.2.1 x.2.2.1 x.2.2.2.1 x.2.2.2.2 := by kernel_rfl
theorem ok218 (n : Nat) : FnOk Try.prog TT 218 (s218 n) := fn_native (an := an218) (n := n) Try.func218 rfl (by kernel_rfl) tblOk (env_plain (env_cons (ok231 n) body231 env_nil)) follows (ev218 n)

-- spec_l7Field
def sm197 : Sm := ⟨[.val true [I, I, (.sl 3 (.one I))], .val true [I, I, I, .bool, I]], [(false, [((.sl 3 (.one I)), 2)])]⟩
def an197 : An := ⟨fun _ => none,
  fun _ => none,
  fun _ => none,
  fun _ => []⟩
def s197 (n : Nat) : SmF := ⟨sm197, fun x => N.spec_l7Field n x.1 x.2.1 x.2.2.1 x.2.2.2.1 x.2.2.2.2.1 x.2.2.2.2.2.1 x.2.2.2.2.2.2.1 x.2.2.2.2.2.2.2⟩
def env197 (n : Nat) : List (FuncId × SmF) := [(218, s218 n)]
theorem body197 : HasBody Try.prog 197 := ⟨_, _, Try.func197, rfl, by kernel_rfl⟩
theorem ev197 (n : Nat) (x : sm197.ins.D) : evFn (find tbl) (plain (env197 n)) an197 n Try.f197 sm197 x = N.spec_l7Field n x.1 x.2.1 x.2.2.1 x.2.2.2.1 x.2.2.2.2.1 x.2.2.2.2.2.1 x.2.2.2.2.2.2.1 x.2.2.2.2.2.2.2 := by kernel_rfl
theorem ok197 (n : Nat) : FnOk Try.prog TT 197 (s197 n) := fn_native (an := an197) (n := n) Try.func197 rfl (by kernel_rfl) tblOk (env_plain (env_cons (ok218 n) body218 env_nil)) follows (ev197 n)

-- spec_Turns
def sm198 : Sm := ⟨[.val false [(.sl 55 k6)]], [(false, [((.sl 3 (.one I)), 2)])]⟩
def an198 : An := ⟨fun _ => none,
  fun b => match b with
    | 0 => some ([.own 3 3 (.one I) 2 false, .slot 4 I], false)
    | 2 => some ([.slot 5 I, .own 3 3 (.one I) 2 false], false)
    | _ => none,
  fun _ => none,
  fun _ => []⟩
def s198 (n : Nat) : SmF := ⟨sm198, fun x => N.spec_Turns n x⟩
def env198 (n : Nat) : List (FuncId × SmF) := []
theorem body198 : HasBody Try.prog 198 := ⟨_, _, Try.func198, rfl, by kernel_rfl⟩
theorem ev198 (n : Nat) (x : sm198.ins.D) : evFn (find tbl) (plain (env198 n)) an198 n Try.f198 sm198 x = N.spec_Turns n x := by kernel_rfl
theorem ok198 (n : Nat) : FnOk Try.prog TT 198 (s198 n) := fn_native (an := an198) (n := n) Try.func198 rfl (by kernel_rfl) tblOk (env_plain env_nil) follows (ev198 n)

-- spec_l7Rank
def sm245 : Sm := ⟨[.val true [I, I, I, .bool, I], .val false [(.sl 3 (.one I))], .val false [I]], [(false, [(I, 0)])]⟩
def an245 : An := ⟨fun _ => none,
  fun _ => none,
  fun _ => none,
  fun _ => []⟩
def s245 (n : Nat) : SmF := ⟨sm245, fun x => N.spec_l7Rank x.1 x.2.1 x.2.2.1 x.2.2.2.1 x.2.2.2.2.1 x.2.2.2.2.2.1 x.2.2.2.2.2.2⟩
def env245 (n : Nat) : List (FuncId × SmF) := []
theorem body245 : HasBody Try.prog 245 := ⟨_, _, Try.func245, rfl, by kernel_rfl⟩
theorem ev245 (n : Nat) (x : sm245.ins.D) : evFn (find tbl) (plain (env245 n)) an245 n Try.f245 sm245 x = N.spec_l7Rank x.1 x.2.1 x.2.2.1 x.2.2.2.1 x.2.2.2.2.1 x.2.2.2.2.2.1 x.2.2.2.2.2.2 := by kernel_rfl
theorem ok245 (n : Nat) : FnOk Try.prog TT 245 (s245 n) := fn_native (an := an245) (n := n) Try.func245 rfl (by kernel_rfl) tblOk (env_plain env_nil) follows (ev245 n)

-- spec_l7Before
def sm232 : Sm := ⟨[.val true [I, I, I, .bool, I], .val false [(.sl 3 (.one I))], .val false [I], .val false [I]], [(false, [(.bool, 0)])]⟩
def an232 : An := ⟨fun _ => none,
  fun _ => none,
  fun _ => none,
  fun _ => []⟩
def s232 (n : Nat) : SmF := ⟨sm232, fun x => N.spec_l7Before x.1 x.2.1 x.2.2.1 x.2.2.2.1 x.2.2.2.2.1 x.2.2.2.2.2.1 x.2.2.2.2.2.2.1 x.2.2.2.2.2.2.2⟩
def env232 (n : Nat) : List (FuncId × SmF) := [(245, s245 n)]
theorem body232 : HasBody Try.prog 232 := ⟨_, _, Try.func232, rfl, by kernel_rfl⟩
theorem ev232 (n : Nat) (x : sm232.ins.D) : evFn (find tbl) (plain (env232 n)) an232 n Try.f232 sm232 x = N.spec_l7Before x.1 x.2.1 x.2.2.1 x.2.2.2.1 x.2.2.2.2.1 x.2.2.2.2.2.1 x.2.2.2.2.2.2.1 x.2.2.2.2.2.2.2 := by kernel_rfl
theorem ok232 (n : Nat) : FnOk Try.prog TT 232 (s232 n) := fn_native (an := an232) (n := n) Try.func232 rfl (by kernel_rfl) tblOk (env_plain (env_cons (ok245 n) body245 env_nil)) follows (ev232 n)

-- spec_l7Choices
def sm219 : Sm := ⟨[.val true [I, I, (.sl 3 (.one I))], .val true [I, I, I, .bool, I], .val false [(.sl 3 (.one I))]], [(false, [((.sl 3 (.one I)), 2)])]⟩
def an219 : An := ⟨fun _ => none,
  fun b => match b with
    | 0 => some ([.own 7 3 (.one I) 2 false, .slot 9 I], false)
    | 2 => some ([.own 10 3 (.one I) 2 false, .slot 11 I], false)
    | 4 => some ([.slot 12 I, .own 10 3 (.one I) 2 false], false)
    | _ => none,
  fun b => match b with
    | 7 => some ([.own 7 3 (.one I) 2 false], false)
    | _ => none,
  fun _ => []⟩
def s219 (n : Nat) : SmF := ⟨sm219, fun x => N.spec_l7Choices n x.1 x.2.1 x.2.2.1 x.2.2.2.1 x.2.2.2.2.1 x.2.2.2.2.2.1 x.2.2.2.2.2.2.1 x.2.2.2.2.2.2.2.1 x.2.2.2.2.2.2.2.2⟩
def env219 (n : Nat) : List (FuncId × SmF) := [(231, s231 n), (232, s232 n)]
theorem body219 : HasBody Try.prog 219 := ⟨_, _, Try.func219, rfl, by kernel_rfl⟩
theorem ev219 (n : Nat) (x : sm219.ins.D) : evFn (find tbl) (plain (env219 n)) an219 n Try.f219 sm219 x = N.spec_l7Choices n x.1 x.2.1 x.2.2.1 x.2.2.2.1 x.2.2.2.2.1 x.2.2.2.2.2.1 x.2.2.2.2.2.2.1 x.2.2.2.2.2.2.2.1 x.2.2.2.2.2.2.2.2 := by kernel_rfl
theorem ok219 (n : Nat) : FnOk Try.prog TT 219 (s219 n) := fn_native (an := an219) (n := n) Try.func219 rfl (by kernel_rfl) tblOk (env_plain (env_cons (ok231 n) body231 (env_cons (ok232 n) body232 env_nil))) follows (ev219 n)

-- spec_l6Among
def sm179 : Sm := ⟨[.val false [(.sl 3 (.one I))], .val false [I]], [(false, [(.bool, 0)])]⟩
def an179 : An := ⟨fun _ => none,
  fun b => match b with
    | 0 => some ([.slot 5 I], true)
    | _ => none,
  fun _ => none,
  fun _ => []⟩
def s179 (n : Nat) : SmF := ⟨sm179, fun x => N.spec_l6Among n x.1 x.2⟩
def env179 (n : Nat) : List (FuncId × SmF) := []
theorem body179 : HasBody Try.prog 179 := ⟨_, _, Try.func179, rfl, by kernel_rfl⟩
theorem ev179 (n : Nat) (x : sm179.ins.D) : evFn (find tbl) (plain (env179 n)) an179 n Try.f179 sm179 x = N.spec_l6Among n x.1 x.2 := by kernel_rfl
theorem ok179 (n : Nat) : FnOk Try.prog TT 179 (s179 n) := fn_native (an := an179) (n := n) Try.func179 rfl (by kernel_rfl) tblOk (env_plain env_nil) follows (ev179 n)

-- spec_l8Who
def sm220 : Sm := ⟨[.box [(I, 0), (I, 0), ((.sl 3 (.one I)), 0), ((.sl 55 k6), 0), ((.sl 36 (.one (.sl 3 (.one I)))), 2), ((.sl 3 (.one I)), 2)], .val false [I]], [(false, [(I, 0)])]⟩
def an220 : An := ⟨fun _ => none,
  fun b => match b with
    | 0 => some ([.slot 5 I], true)
    | _ => none,
  fun _ => none,
  fun _ => []⟩
def s220 (n : Nat) : SmF := ⟨sm220, fun x => N.spec_l8Who n x.1 x.2.1 x.2.2.1 x.2.2.2.1 x.2.2.2.2.1 x.2.2.2.2.2.1 x.2.2.2.2.2.2⟩
def env220 (n : Nat) : List (FuncId × SmF) := []
theorem body220 : HasBody Try.prog 220 := ⟨_, _, Try.func220, rfl, by kernel_rfl⟩
theorem ev220 (n : Nat) (x : sm220.ins.D) : evFn (find tbl) (plain (env220 n)) an220 n Try.f220 sm220 x = N.spec_l8Who n x.1 x.2.1 x.2.2.1 x.2.2.2.1 x.2.2.2.2.1 x.2.2.2.2.2.1 x.2.2.2.2.2.2 := by kernel_rfl
theorem ok220 (n : Nat) : FnOk Try.prog TT 220 (s220 n) := fn_native (an := an220) (n := n) Try.func220 rfl (by kernel_rfl) tblOk (env_plain env_nil) follows (ev220 n)

-- spec_l8Choose
def sm199 : Sm := ⟨[.box [(I, 0), (I, 0), ((.sl 3 (.one I)), 0), ((.sl 55 k6), 0), ((.sl 36 (.one (.sl 3 (.one I)))), 2), ((.sl 3 (.one I)), 2)], .val false [I], .val false [I]], [(false, [(.bool, 0)])]⟩
def an199 : An := ⟨fun b => match b with
    | 10 => some [.slot 72 .bool, .box 0 [some (I, 0), some (I, 0), some ((.sl 3 (.one I)), 0), some ((.sl 55 k6), 0), some ((.sl 36 (.one (.sl 3 (.one I)))), 2), some ((.sl 3 (.one I)), 2)]]
    | _ => none,
  fun b => match b with
    | 0 => some ([.slot 9 I, .box 0 [some (I, 0), some (I, 0), some ((.sl 3 (.one I)), 0), some ((.sl 55 k6), 0), some ((.sl 36 (.one (.sl 3 (.one I)))), 2), some ((.sl 3 (.one I)), 2)]], true)
    | _ => none,
  fun b => match b with
    | 7 => some ([.box 0 [some (I, 0), some (I, 0), some ((.sl 3 (.one I)), 0), some ((.sl 55 k6), 0), some ((.sl 36 (.one (.sl 3 (.one I)))), 2), some ((.sl 3 (.one I)), 2)]], true)
    | _ => none,
  fun _ => []⟩
def s199 (n : Nat) : SmF := ⟨sm199, fun x => N.spec_l8Choose n x.1 x.2.1 x.2.2.1 x.2.2.2.1 x.2.2.2.2.1 x.2.2.2.2.2.1 x.2.2.2.2.2.2.1 x.2.2.2.2.2.2.2⟩
def env199 (n : Nat) : List (FuncId × SmF) := [(179, s179 n), (199, s199 n), (219, s219 n), (220, s220 n)]
theorem body199 : HasBody Try.prog 199 := ⟨_, _, Try.func199, rfl, by kernel_rfl⟩
theorem ev199 (n : Nat) (x : sm199.ins.D) : evFn (find tbl) (plain (env199 n)) an199 n Try.f199 sm199 x = N.spec_l8Choose (n + 1) x.1 x.2.1 x.2.2.1 x.2.2.2.1 x.2.2.2.2.1 x.2.2.2.2.2.1 x.2.2.2.2.2.2.1 x.2.2.2.2.2.2.2 := by kernel_rfl
theorem ok199 (n : Nat) : FnOk Try.prog TT 199 (s199 n) := by
  induction n with
  | zero => exact fn_none
  | succ n ih => exact fn_native (an := an199) (n := n) (l := (plain (env199 n))) (F := fun (x : sm199.ins.D) => N.spec_l8Choose (n + 1) x.1 x.2.1 x.2.2.1 x.2.2.2.1 x.2.2.2.2.1 x.2.2.2.2.2.1 x.2.2.2.2.2.2.1 x.2.2.2.2.2.2.2) Try.func199 rfl (by kernel_rfl) tblOk (env_plain (env_cons (ok179 n) body179 (env_cons ih body199 (env_cons (ok219 n) body219 (env_cons (ok220 n) body220 env_nil))))) follows (ev199 n)

-- spec_l8Step
def sm171 : Sm := ⟨[.val true [I, I, (.sl 3 (.one I))], .val false [(.sl 55 k6)]], [(false, [((.sl 3 (.one I)), 2)])]⟩
def an171 : An := ⟨fun _ => none,
  fun b => match b with
    | 0 => some ([.slot 6 I, .box 12 [some (I, 0), some (I, 0), some ((.sl 3 (.one I)), 0), some ((.sl 55 k6), 0), some ((.sl 36 (.one (.sl 3 (.one I)))), 2), some ((.sl 3 (.one I)), 2)]], false)
    | 2 => some ([.slot 8 I, .box 12 [some (I, 0), some (I, 0), some ((.sl 3 (.one I)), 0), some ((.sl 55 k6), 0), some ((.sl 36 (.one (.sl 3 (.one I)))), 2), some ((.sl 3 (.one I)), 2)]], false)
    | _ => none,
  fun b => match b with
    | 13 => some ([.box 12 [some (I, 0), some (I, 0), some ((.sl 3 (.one I)), 0), some ((.sl 55 k6), 0), some ((.sl 36 (.one (.sl 3 (.one I)))), 2), some ((.sl 3 (.one I)), 2)]], false)
    | _ => none,
  fun _ => []⟩
def s171 (n : Nat) : SmF := ⟨sm171, fun x => N.spec_l8Step n x.1 x.2.1 x.2.2.1 x.2.2.2⟩
def env171 (n : Nat) : List (FuncId × SmF) := [(197, s197 n), (198, s198 n), (199, s199 n)]
theorem body171 : HasBody Try.prog 171 := ⟨_, _, Try.func171, rfl, by kernel_rfl⟩
theorem ev171 (n : Nat) (x : sm171.ins.D) : evFn (find tbl) (plain (env171 n)) an171 n Try.f171 sm171 x = N.spec_l8Step n x.1 x.2.1 x.2.2.1 x.2.2.2 := by kernel_rfl
theorem ok171 (n : Nat) : FnOk Try.prog TT 171 (s171 n) := fn_native (an := an171) (n := n) Try.func171 rfl (by kernel_rfl) tblOk (env_plain (env_cons (ok197 n) body197 (env_cons (ok198 n) body198 (env_cons (ok199 n) body199 env_nil)))) follows (ev171 n)

-- spec_l9Advance
def sm115 : Sm := ⟨[.val true [I, I, (.sl 3 (.one I))], .val false [(.sl 55 k6)]], [(false, [((.sl 55 k6), 2)])]⟩
def an115 : An := ⟨fun _ => none,
  fun b => match b with
    | 0 => some ([.own 6 55 k6 2 false, .slot 7 I], false)
    | _ => none,
  fun b => match b with
    | 10 => some ([.box 8 [some (I, 0), some (I, 0), some (I, 0), some (.bool, 0), some (I, 0)]], false)
    | _ => none,
  fun _ => []⟩
def s115 (n : Nat) : SmF := ⟨sm115, fun x => N.spec_l9Advance n x.1 x.2.1 x.2.2.1 x.2.2.2⟩
def env115 (n : Nat) : List (FuncId × SmF) := [(171, s171 n)]
theorem body115 : HasBody Try.prog 115 := ⟨_, _, Try.func115, rfl, by kernel_rfl⟩
theorem ev115 (n : Nat) (x : sm115.ins.D) : evFn (find tbl) (plain (env115 n)) an115 n Try.f115 sm115 x = N.spec_l9Advance n x.1 x.2.1 x.2.2.1 x.2.2.2 := by kernel_rfl
theorem ok115 (n : Nat) : FnOk Try.prog TT 115 (s115 n) := fn_native (an := an115) (n := n) Try.func115 rfl (by kernel_rfl) tblOk (env_plain (env_cons (ok171 n) body171 env_nil)) follows (ev115 n)

-- spec_Drive
def sm43 : Sm := ⟨[.val true [I, I, (.sl 3 (.one I))], .val false [(.sl 55 k6)], .val false [I]], [(false, [((.sl 55 k6), 2)]), (false, [((.sl 4 (.one .bool)), 2)])]⟩
def an43 : An := ⟨fun b => match b with
    | 15 => some [.own 9 4 (.one .bool) 2 false]
    | _ => none,
  fun b => match b with
    | 0 => some ([.own 9 4 (.one .bool) 2 false, .slot 10 I], false)
    | 2 => some ([.slot 2 I, .own 8 55 k6 2 false, .own 9 4 (.one .bool) 2 false], false)
    | 4 => some ([.slot 11 I, .own 9 4 (.one .bool) 2 false], false)
    | _ => none,
  fun _ => none,
  fun _ => []⟩
def s43 (n : Nat) : SmF := ⟨sm43, fun x => N.spec_Drive n x.1 x.2.1 x.2.2.1 x.2.2.2.1 x.2.2.2.2⟩
def env43 (n : Nat) : List (FuncId × SmF) := [(53, s53 n), (84, s84 n), (115, s115 n), (124, s124 n)]
theorem body43 : HasBody Try.prog 43 := ⟨_, _, Try.func43, rfl, by kernel_rfl⟩
theorem ev43 (n : Nat) (x : sm43.ins.D) : evFn (find tbl) (plain (env43 n)) an43 n Try.f43 sm43 x = N.spec_Drive n x.1 x.2.1 x.2.2.1 x.2.2.2.1 x.2.2.2.2 := by kernel_rfl
theorem ok43 (n : Nat) : FnOk Try.prog TT 43 (s43 n) := fn_native (an := an43) (n := n) Try.func43 rfl (by kernel_rfl) tblOk (env_plain (env_cons (ok53 n) body53 (env_cons (ok84 n) body84 (env_cons (ok115 n) body115 (env_cons (ok124 n) body124 env_nil))))) follows (ev43 n)

-- impl_copyCrew
def sm118 : Sm := ⟨[.val false [(.sl 55 k6)]], [(false, [((.sl 55 k6), 2)])]⟩
def an118 : An := ⟨fun _ => none,
  fun _ => none,
  fun _ => none,
  fun _ => []⟩
def s118 (n : Nat) : SmF := ⟨sm118, fun x => N.impl_copyCrew x⟩
def env118 (n : Nat) : List (FuncId × SmF) := []
theorem body118 : HasBody Try.prog 118 := ⟨_, _, Try.func118, rfl, by kernel_rfl⟩
theorem ev118 (n : Nat) (x : sm118.ins.D) : evFn (find tbl) (plain (env118 n)) an118 n Try.f118 sm118 x = N.impl_copyCrew x := by kernel_rfl
theorem ok118 (n : Nat) : FnOk Try.prog TT 118 (s118 n) := fn_native (an := an118) (n := n) Try.func118 rfl (by kernel_rfl) tblOk (env_plain env_nil) follows (ev118 n)

-- impl_rests
def sm120 : Sm := ⟨[.val true [I, I, I, .bool, I]], [(false, [(.bool, 0)])]⟩
def an120 : An := ⟨fun _ => none,
  fun _ => none,
  fun _ => none,
  fun _ => []⟩
def s120 (n : Nat) : SmF := ⟨sm120, fun x => N.impl_rests x.1 x.2.1 x.2.2.1 x.2.2.2.1 x.2.2.2.2⟩
def env120 (n : Nat) : List (FuncId × SmF) := []
theorem body120 : HasBody Try.prog 120 := ⟨_, _, Try.func120, rfl, by kernel_rfl⟩
theorem ev120 (n : Nat) (x : sm120.ins.D) : evFn (find tbl) (plain (env120 n)) an120 n Try.f120 sm120 x = N.impl_rests x.1 x.2.1 x.2.2.1 x.2.2.2.1 x.2.2.2.2 := by kernel_rfl
theorem ok120 (n : Nat) : FnOk Try.prog TT 120 (s120 n) := fn_native (an := an120) (n := n) Try.func120 rfl (by kernel_rfl) tblOk (env_plain env_nil) follows (ev120 n)

-- impl_in
def sm88 : Sm := ⟨[.val false [I], .val false [I], .val false [I]], [(false, [(.bool, 0)])]⟩
def an88 : An := ⟨fun _ => none,
  fun _ => none,
  fun _ => none,
  fun _ => []⟩
def s88 (n : Nat) : SmF := ⟨sm88, fun x => N.impl_in x.1 x.2.1 x.2.2⟩
def env88 (n : Nat) : List (FuncId × SmF) := []
theorem body88 : HasBody Try.prog 88 := ⟨_, _, Try.func88, rfl, by kernel_rfl⟩
theorem ev88 (n : Nat) (x : sm88.ins.D) : evFn (find tbl) (plain (env88 n)) an88 n Try.f88 sm88 x = N.impl_in x.1 x.2.1 x.2.2 := by kernel_rfl
theorem ok88 (n : Nat) : FnOk Try.prog TT 88 (s88 n) := fn_native (an := an88) (n := n) Try.func88 rfl (by kernel_rfl) tblOk (env_plain env_nil) follows (ev88 n)

-- impl_FloorOk
def sm76 : Sm := ⟨[.val true [I, I, (.sl 3 (.one I))]], [(false, [(.bool, 0)])]⟩
def an76 : An := ⟨fun _ => none,
  fun b => match b with
    | 0 => some ([.slot 29 I], true)
    | _ => none,
  fun _ => none,
  fun _ => []⟩
def s76 (n : Nat) : SmF := ⟨sm76, fun x => N.impl_FloorOk n x.1 x.2.1 x.2.2⟩
def env76 (n : Nat) : List (FuncId × SmF) := [(88, s88 n)]
theorem body76 : HasBody Try.prog 76 := ⟨_, _, Try.func76, rfl, by kernel_rfl⟩
theorem ev76 (n : Nat) (x : sm76.ins.D) : evFn (find tbl) (plain (env76 n)) an76 n Try.f76 sm76 x = N.impl_FloorOk n x.1 x.2.1 x.2.2 := by kernel_rfl
theorem ok76 (n : Nat) : FnOk Try.prog TT 76 (s76 n) := fn_native (an := an76) (n := n) Try.func76 rfl (by kernel_rfl) tblOk (env_plain (env_cons (ok88 n) body88 env_nil)) follows (ev76 n)

-- impl_isCell
def sm154 : Sm := ⟨[.val true [I, I, (.sl 3 (.one I))], .val false [I]], [(false, [(.bool, 0)])]⟩
def an154 : An := ⟨fun _ => none,
  fun _ => none,
  fun _ => none,
  fun _ => []⟩
def s154 (n : Nat) : SmF := ⟨sm154, fun x => N.impl_isCell x.1 x.2.1 x.2.2.1 x.2.2.2⟩
def env154 (n : Nat) : List (FuncId × SmF) := [(88, s88 n)]
theorem body154 : HasBody Try.prog 154 := ⟨_, _, Try.func154, rfl, by kernel_rfl⟩
theorem ev154 (n : Nat) (x : sm154.ins.D) : evFn (find tbl) (plain (env154 n)) an154 n Try.f154 sm154 x = N.impl_isCell x.1 x.2.1 x.2.2.1 x.2.2.2 := by kernel_rfl
theorem ok154 (n : Nat) : FnOk Try.prog TT 154 (s154 n) := fn_native (an := an154) (n := n) Try.func154 rfl (by kernel_rfl) tblOk (env_plain (env_cons (ok88 n) body88 env_nil)) follows (ev154 n)

-- impl_KindAt
def sm78 : Sm := ⟨[.val true [I, I, (.sl 3 (.one I))], .val false [I]], [(false, [(I, 0)])]⟩
def an78 : An := ⟨fun _ => none,
  fun _ => none,
  fun _ => none,
  fun _ => []⟩
def s78 (n : Nat) : SmF := ⟨sm78, fun x => N.impl_KindAt n x.1 x.2.1 x.2.2.1 x.2.2.2⟩
def env78 (n : Nat) : List (FuncId × SmF) := [(76, s76 n), (154, s154 n)]
theorem body78 : HasBody Try.prog 78 := ⟨_, _, Try.func78, rfl, by kernel_rfl⟩
theorem ev78 (n : Nat) (x : sm78.ins.D) : evFn (find tbl) (plain (env78 n)) an78 n Try.f78 sm78 x = N.impl_KindAt n x.1 x.2.1 x.2.2.1 x.2.2.2 := by kernel_rfl
theorem ok78 (n : Nat) : FnOk Try.prog TT 78 (s78 n) := fn_native (an := an78) (n := n) Try.func78 rfl (by kernel_rfl) tblOk (env_plain (env_cons (ok76 n) body76 (env_cons (ok154 n) body154 env_nil))) follows (ev78 n)

-- impl_standsOk
def sm140 : Sm := ⟨[.val true [I, I, (.sl 3 (.one I))], .val true [I, I, I, .bool, I]], [(false, [(.bool, 0)])]⟩
def an140 : An := ⟨fun _ => none,
  fun _ => none,
  fun _ => none,
  fun _ => []⟩
def s140 (n : Nat) : SmF := ⟨sm140, fun x => N.impl_standsOk n x.1 x.2.1 x.2.2.1 x.2.2.2.1 x.2.2.2.2.1 x.2.2.2.2.2.1 x.2.2.2.2.2.2.1 x.2.2.2.2.2.2.2⟩
def env140 (n : Nat) : List (FuncId × SmF) := [(78, s78 n)]
theorem body140 : HasBody Try.prog 140 := ⟨_, _, Try.func140, rfl, by kernel_rfl⟩
theorem ev140 (n : Nat) (x : sm140.ins.D) : evFn (find tbl) (plain (env140 n)) an140 n Try.f140 sm140 x = N.impl_standsOk n x.1 x.2.1 x.2.2.1 x.2.2.2.1 x.2.2.2.2.1 x.2.2.2.2.2.1 x.2.2.2.2.2.2.1 x.2.2.2.2.2.2.2 := by kernel_rfl
theorem ok140 (n : Nat) : FnOk Try.prog TT 140 (s140 n) := fn_native (an := an140) (n := n) Try.func140 rfl (by kernel_rfl) tblOk (env_plain (env_cons (ok78 n) body78 env_nil)) follows (ev140 n)

-- impl_CrewOk
def sm57 : Sm := ⟨[.val true [I, I, (.sl 3 (.one I))], .val false [(.sl 55 k6)]], [(false, [(.bool, 0)])]⟩
def an57 : An := ⟨fun _ => none,
  fun b => match b with
    | 0 => some ([.slot 19 I], true)
    | 2 => some ([.slot 59 I], true)
    | _ => none,
  fun _ => none,
  fun _ => []⟩
def s57 (n : Nat) : SmF := ⟨sm57, fun x => N.impl_CrewOk n x.1 x.2.1 x.2.2.1 x.2.2.2⟩
def env57 (n : Nat) : List (FuncId × SmF) := [(76, s76 n), (88, s88 n), (140, s140 n)]
theorem body57 : HasBody Try.prog 57 := ⟨_, _, Try.func57, rfl, by kernel_rfl⟩
theorem ev57 (n : Nat) (x : sm57.ins.D) : evFn (find tbl) (plain (env57 n)) an57 n Try.f57 sm57 x = N.impl_CrewOk n x.1 x.2.1 x.2.2.1 x.2.2.2 := by kernel_rfl
theorem ok57 (n : Nat) : FnOk Try.prog TT 57 (s57 n) := fn_native (an := an57) (n := n) Try.func57 rfl (by kernel_rfl) tblOk (env_plain (env_cons (ok76 n) body76 (env_cons (ok88 n) body88 (env_cons (ok140 n) body140 env_nil)))) follows (ev57 n)

-- impl_Turns
def sm172 : Sm := ⟨[.val false [(.sl 55 k6)]], [(false, [((.sl 3 (.one I)), 2)])]⟩
def an172 : An := ⟨fun _ => none,
  fun b => match b with
    | 0 => some ([.slot 7 I, .box 3 [some ((.sl 3 (.one I)), 2)]], false)
    | _ => none,
  fun _ => none,
  fun _ => []⟩
def s172 (n : Nat) : SmF := ⟨sm172, fun x => N.impl_Turns n x⟩
def env172 (n : Nat) : List (FuncId × SmF) := []
theorem body172 : HasBody Try.prog 172 := ⟨_, _, Try.func172, rfl, by kernel_rfl⟩
theorem ev172 (n : Nat) (x : sm172.ins.D) : evFn (find tbl) (sorting (env172 n) 200 201 sigTurns []) an172 n Try.f172 sm172 x = N.impl_Turns n x := by kernel_rfl
theorem ok172 (n : Nat) : FnOk Try.prog TT 172 (s172 n) := fn_native (an := an172) (n := n) Try.func172 rfl (by kernel_rfl) tblOk (env_sorting env_nil srtTurns (by kernel_rfl)) follows (ev172 n)

-- impl_beside
def sm225 : Sm := ⟨[.val true [I, I, (.sl 3 (.one I))], .val false [I]], [(false, [((.sl 3 (.one I)), 2)])]⟩
def an225 : An := ⟨fun _ => none,
  fun _ => none,
  fun b => match b with
    | 12 => some ([.own 5 3 (.one I) 2 false], false)
    | 18 => some ([.own 5 3 (.one I) 2 false], false)
    | 24 => some ([.own 5 3 (.one I) 2 false], false)
    | 30 => some ([.own 5 3 (.one I) 2 false], false)
    | _ => none,
  fun _ => []⟩
def s225 (n : Nat) : SmF := ⟨sm225, fun x => N.impl_beside x.1 x.2.1 x.2.2.1 x.2.2.2⟩
def env225 (n : Nat) : List (FuncId × SmF) := []
theorem body225 : HasBody Try.prog 225 := ⟨_, _, Try.func225, rfl, by kernel_rfl⟩
theorem ev225 (n : Nat) (x : sm225.ins.D) : evFn (find tbl) (plain (env225 n)) an225 n Try.f225 sm225 x = N.impl_beside x.1 x.2.1 x.2.2.1 x.2.2.2 := by kernel_rfl
theorem ok225 (n : Nat) : FnOk Try.prog TT 225 (s225 n) := fn_native (an := an225) (n := n) Try.func225 rfl (by kernel_rfl) tblOk (env_plain env_nil) follows (ev225 n)

-- impl_near
def sm206 : Sm := ⟨[.val true [I, I, (.sl 3 (.one I))], .val false [I], .val false [.bool]], [(false, [((.sl 3 (.one I)), 2)])]⟩
def an206 : An := ⟨fun _ => none,
  fun b => match b with
    | 0 => some ([.own 7 3 (.one I) 2 false, .slot 15 I], false)
    | _ => none,
  fun b => match b with
    | 7 => some ([.own 7 3 (.one I) 2 false], false)
    | _ => none,
  fun _ => []⟩
def s206 (n : Nat) : SmF := ⟨sm206, fun x => N.impl_near n x.1 x.2.1 x.2.2.1 x.2.2.2.1 x.2.2.2.2⟩
def env206 (n : Nat) : List (FuncId × SmF) := [(225, s225 n)]
theorem body206 : HasBody Try.prog 206 := ⟨_, _, Try.func206, rfl, by kernel_rfl⟩
theorem ev206 (n : Nat) (x : sm206.ins.D) : evFn (find tbl) (plain (env206 n)) an206 n Try.f206 sm206 x = N.impl_near n x.1 x.2.1 x.2.2.1 x.2.2.2.1 x.2.2.2.2 := by kernel_rfl
theorem ok206 (n : Nat) : FnOk Try.prog TT 206 (s206 n) := fn_native (an := an206) (n := n) Try.func206 rfl (by kernel_rfl) tblOk (env_plain (env_cons (ok225 n) body225 env_nil)) follows (ev206 n)

-- impl_hasInt
def sm70 : Sm := ⟨[.val false [(.sl 3 (.one I))], .val false [I]], [(false, [(.bool, 0)])]⟩
def an70 : An := ⟨fun _ => none,
  fun b => match b with
    | 0 => some ([.slot 9 I], true)
    | _ => none,
  fun _ => none,
  fun _ => []⟩
def s70 (n : Nat) : SmF := ⟨sm70, fun x => N.impl_hasInt n x.1 x.2⟩
def env70 (n : Nat) : List (FuncId × SmF) := []
theorem body70 : HasBody Try.prog 70 := ⟨_, _, Try.func70, rfl, by kernel_rfl⟩
theorem ev70 (n : Nat) (x : sm70.ins.D) : evFn (find tbl) (plain (env70 n)) an70 n Try.f70 sm70 x = N.impl_hasInt n x.1 x.2 := by kernel_rfl
theorem ok70 (n : Nat) : FnOk Try.prog TT 70 (s70 n) := fn_native (an := an70) (n := n) Try.func70 rfl (by kernel_rfl) tblOk (env_plain env_nil) follows (ev70 n)

-- impl_field
def sm176 : Sm := ⟨[.val true [I, I, (.sl 3 (.one I))], .val false [I], .val false [.bool]], [(false, [((.sl 3 (.one I)), 2)])]⟩
def an176 : An := ⟨fun _ => none,
  fun b => match b with
    | 0 => some ([.slot 19 I, .own 7 3 (.one I) 2 false], false)
    | 2 => some ([.own 9 3 (.one I) 2 false, .own 7 3 (.one I) 2 false], false)
    | 4 => some ([.own 9 3 (.one I) 2 false, .slot 57 I, .own 7 3 (.one I) 2 false], false)
    | _ => none,
  fun b => match b with
    | 19 => some ([.own 9 3 (.one I) 2 false, .own 7 3 (.one I) 2 false], false)
    | _ => none,
  fun _ => []⟩
def s176 (n : Nat) : SmF := ⟨sm176, fun x => N.impl_field n x.1 x.2.1 x.2.2.1 x.2.2.2.1 x.2.2.2.2⟩
def env176 (n : Nat) : List (FuncId × SmF) := [(206, s206 n)]
theorem body176 : HasBody Try.prog 176 := ⟨_, _, Try.func176, rfl, by kernel_rfl⟩
theorem ev176 (n : Nat) (x : sm176.ins.D) : evFn (find tbl) (plain (env176 n)) an176 n Try.f176 sm176 x = N.impl_field n x.1 x.2.1 x.2.2.1 x.2.2.2.1 x.2.2.2.2 := by kernel_rfl
theorem ok176 (n : Nat) : FnOk Try.prog TT 176 (s176 n) := fn_native (an := an176) (n := n) Try.func176 rfl (by kernel_rfl) tblOk (env_plain (env_cons (ok206 n) body206 env_nil)) follows (ev176 n)

-- impl_Choices
def sm202 : Sm := ⟨[.val true [I, I, (.sl 3 (.one I))], .val true [I, I, I, .bool, I]], [(false, [((.sl 3 (.one I)), 2)])]⟩
def an202 : An := ⟨fun _ => none,
  fun b => match b with
    | 0 => some ([.slot 58 I, .box 6 [some ((.sl 3 (.one I)), 2)]], false)
    | _ => none,
  fun b => match b with
    | 15 => some ([.box 5 [some ((.sl 3 (.one I)), 2)]], false)
    | 42 => some ([.box 6 [some ((.sl 3 (.one I)), 2)]], false)
    | _ => none,
  fun _ => []⟩
def s202 (n : Nat) : SmF := ⟨sm202, fun x => N.impl_Choices n x.1 x.2.1 x.2.2.1 x.2.2.2.1 x.2.2.2.2.1 x.2.2.2.2.2.1 x.2.2.2.2.2.2.1 x.2.2.2.2.2.2.2⟩
def env202 (n : Nat) : List (FuncId × SmF) := [(70, s70 n), (76, s76 n), (140, s140 n), (176, s176 n), (206, s206 n), (225, s225 n)]
theorem body202 : HasBody Try.prog 202 := ⟨_, _, Try.func202, rfl, by kernel_rfl⟩
theorem ev202 (n : Nat) (x : sm202.ins.D) : evFn (find tbl) (sorting (env202 n) 200 227 sigChoices [254]) an202 n Try.f202 sm202 x = N.impl_Choices n x.1 x.2.1 x.2.2.1 x.2.2.2.1 x.2.2.2.2.1 x.2.2.2.2.2.1 x.2.2.2.2.2.2.1 x.2.2.2.2.2.2.2 := by kernel_rfl
theorem ok202 (n : Nat) : FnOk Try.prog TT 202 (s202 n) := fn_native (an := an202) (n := n) Try.func202 rfl (by kernel_rfl) tblOk (env_sorting (env_cons (ok70 n) body70 (env_cons (ok76 n) body76 (env_cons (ok140 n) body140 (env_cons (ok176 n) body176 (env_cons (ok206 n) body206 (env_cons (ok225 n) body225 env_nil)))))) srtChoices (by kernel_rfl)) follows (ev202 n)

-- impl_mover_taken
def sm203 : Sm := ⟨[.box [(I, 0), (I, 0), ((.sl 3 (.one I)), 0), ((.sl 55 k6), 0), ((.sl 3 (.one I)), 2)], .val false [I]], [(false, [(.bool, 0)])]⟩
def an203 : An := ⟨fun _ => none,
  fun _ => none,
  fun _ => none,
  fun _ => []⟩
def s203 (n : Nat) : SmF := ⟨sm203, fun x => N.impl_mover_taken n x.1 x.2.1 x.2.2.1 x.2.2.2.1 x.2.2.2.2.1 x.2.2.2.2.2⟩
def env203 (n : Nat) : List (FuncId × SmF) := [(70, s70 n)]
theorem body203 : HasBody Try.prog 203 := ⟨_, _, Try.func203, rfl, by kernel_rfl⟩
theorem ev203 (n : Nat) (x : sm203.ins.D) : evFn (find tbl) (plain (env203 n)) an203 n Try.f203 sm203 x = N.impl_mover_taken n x.1 x.2.1 x.2.2.1 x.2.2.2.1 x.2.2.2.2.1 x.2.2.2.2.2 := by kernel_rfl
theorem ok203 (n : Nat) : FnOk Try.prog TT 203 (s203 n) := fn_native (an := an203) (n := n) Try.func203 rfl (by kernel_rfl) tblOk (env_plain (env_cons (ok70 n) body70 env_nil)) follows (ev203 n)

-- impl_mover_there
def sm204 : Sm := ⟨[.box [(I, 0), (I, 0), ((.sl 3 (.one I)), 0), ((.sl 55 k6), 0), ((.sl 3 (.one I)), 2)], .val false [I], .val false [I]], [(false, [(I, 0)])]⟩
def an204 : An := ⟨fun _ => none,
  fun b => match b with
    | 0 => some ([.slot 14 I], true)
    | _ => none,
  fun _ => none,
  fun _ => []⟩
def s204 (n : Nat) : SmF := ⟨sm204, fun x => N.impl_mover_there n x.1 x.2.1 x.2.2.1 x.2.2.2.1 x.2.2.2.2.1 x.2.2.2.2.2.1 x.2.2.2.2.2.2⟩
def env204 (n : Nat) : List (FuncId × SmF) := []
theorem body204 : HasBody Try.prog 204 := ⟨_, _, Try.func204, rfl, by kernel_rfl⟩
theorem ev204 (n : Nat) (x : sm204.ins.D) : evFn (find tbl) (plain (env204 n)) an204 n Try.f204 sm204 x = N.impl_mover_there n x.1 x.2.1 x.2.2.1 x.2.2.2.1 x.2.2.2.2.1 x.2.2.2.2.2.1 x.2.2.2.2.2.2 := by kernel_rfl
theorem ok204 (n : Nat) : FnOk Try.prog TT 204 (s204 n) := fn_native (an := an204) (n := n) Try.func204 rfl (by kernel_rfl) tblOk (env_plain env_nil) follows (ev204 n)

-- impl_mover_choose
def sm173 : Sm := ⟨[.box [(I, 0), (I, 0), ((.sl 3 (.one I)), 0), ((.sl 55 k6), 0), ((.sl 3 (.one I)), 2)], .val false [I], .val false [I]], [(false, [(.bool, 0)])]⟩
def an173 : An := ⟨fun b => match b with
    | 4 => some [.slot 45 .bool, .box 0 [some (I, 0), some (I, 0), some ((.sl 3 (.one I)), 0), some ((.sl 55 k6), 0), some ((.sl 3 (.one I)), 2)]]
    | 7 => some [.slot 64 .bool, .box 0 [some (I, 0), some (I, 0), some ((.sl 3 (.one I)), 0), some ((.sl 55 k6), 0), some ((.sl 3 (.one I)), 2)]]
    | _ => none,
  fun b => match b with
    | 0 => some ([.slot 23 I, .box 0 [some (I, 0), some (I, 0), some ((.sl 3 (.one I)), 0), some ((.sl 55 k6), 0), some ((.sl 3 (.one I)), 2)]], true)
    | _ => none,
  fun b => match b with
    | 7 => some ([.box 0 [some (I, 0), some (I, 0), some ((.sl 3 (.one I)), 0), some ((.sl 55 k6), 0), some ((.sl 3 (.one I)), 2)]], true)
    | _ => none,
  fun _ => []⟩
def s173 (n : Nat) : SmF := ⟨sm173, fun x => N.impl_mover_choose n x.1 x.2.1 x.2.2.1 x.2.2.2.1 x.2.2.2.2.1 x.2.2.2.2.2.1 x.2.2.2.2.2.2⟩
def env173 (n : Nat) : List (FuncId × SmF) := [(173, s173 n), (202, s202 n), (203, s203 n), (204, s204 n)]
theorem body173 : HasBody Try.prog 173 := ⟨_, _, Try.func173, rfl, by kernel_rfl⟩
theorem ev173 (n : Nat) (x : sm173.ins.D) : evFn (find tbl) (plain (env173 n)) an173 n Try.f173 sm173 x = N.impl_mover_choose (n + 1) x.1 x.2.1 x.2.2.1 x.2.2.2.1 x.2.2.2.2.1 x.2.2.2.2.2.1 x.2.2.2.2.2.2 := by kernel_rfl
theorem ok173 (n : Nat) : FnOk Try.prog TT 173 (s173 n) := by
  induction n with
  | zero => exact fn_none
  | succ n ih => exact fn_native (an := an173) (n := n) (l := (plain (env173 n))) (F := fun (x : sm173.ins.D) => N.impl_mover_choose (n + 1) x.1 x.2.1 x.2.2.1 x.2.2.2.1 x.2.2.2.2.1 x.2.2.2.2.2.1 x.2.2.2.2.2.2) Try.func173 rfl (by kernel_rfl) tblOk (env_plain (env_cons ih body173 (env_cons (ok202 n) body202 (env_cons (ok203 n) body203 (env_cons (ok204 n) body204 env_nil))))) follows (ev173 n)

-- impl_Step
def sm119 : Sm := ⟨[.val true [I, I, (.sl 3 (.one I))], .val false [(.sl 55 k6)]], [(false, [((.sl 3 (.one I)), 2)])]⟩
def an119 : An := ⟨fun _ => none,
  fun b => match b with
    | 0 => some ([.slot 18 I, .box 15 [some (I, 0), some (I, 0), some ((.sl 3 (.one I)), 0), some ((.sl 55 k6), 0), some ((.sl 3 (.one I)), 2)]], false)
    | 2 => some ([.slot 33 I, .box 15 [some (I, 0), some (I, 0), some ((.sl 3 (.one I)), 0), some ((.sl 55 k6), 0), some ((.sl 3 (.one I)), 2)]], false)
    | _ => none,
  fun b => match b with
    | 13 => some ([.box 15 [some (I, 0), some (I, 0), some ((.sl 3 (.one I)), 0), some ((.sl 55 k6), 0), some ((.sl 3 (.one I)), 2)]], false)
    | _ => none,
  fun _ => []⟩
def s119 (n : Nat) : SmF := ⟨sm119, fun x => N.impl_Step n x.1 x.2.1 x.2.2.1 x.2.2.2⟩
def env119 (n : Nat) : List (FuncId × SmF) := [(57, s57 n), (172, s172 n), (173, s173 n)]
theorem body119 : HasBody Try.prog 119 := ⟨_, _, Try.func119, rfl, by kernel_rfl⟩
theorem ev119 (n : Nat) (x : sm119.ins.D) : evFn (find tbl) (plain (env119 n)) an119 n Try.f119 sm119 x = N.impl_Step n x.1 x.2.1 x.2.2.1 x.2.2.2 := by kernel_rfl
theorem ok119 (n : Nat) : FnOk Try.prog TT 119 (s119 n) := fn_native (an := an119) (n := n) Try.func119 rfl (by kernel_rfl) tblOk (env_plain (env_cons (ok57 n) body57 (env_cons (ok172 n) body172 (env_cons (ok173 n) body173 env_nil)))) follows (ev119 n)

-- impl_Advance
def sm37 : Sm := ⟨[.val true [I, I, (.sl 3 (.one I))], .val false [(.sl 55 k6)]], [(false, [((.sl 55 k6), 2)])]⟩
def an37 : An := ⟨fun _ => none,
  fun b => match b with
    | 0 => some ([.slot 20 I, .own 5 55 k6 2 false], false)
    | _ => none,
  fun b => match b with
    | 7 => some ([.own 5 55 k6 2 false], false)
    | _ => none,
  fun _ => []⟩
def s37 (n : Nat) : SmF := ⟨sm37, fun x => N.impl_Advance n x.1 x.2.1 x.2.2.1 x.2.2.2⟩
def env37 (n : Nat) : List (FuncId × SmF) := [(57, s57 n), (118, s118 n), (119, s119 n), (120, s120 n)]
theorem body37 : HasBody Try.prog 37 := ⟨_, _, Try.func37, rfl, by kernel_rfl⟩
theorem ev37 (n : Nat) (x : sm37.ins.D) : evFn (find tbl) (plain (env37 n)) an37 n Try.f37 sm37 x = N.impl_Advance n x.1 x.2.1 x.2.2.1 x.2.2.2 := by kernel_rfl
theorem ok37 (n : Nat) : FnOk Try.prog TT 37 (s37 n) := fn_native (an := an37) (n := n) Try.func37 rfl (by kernel_rfl) tblOk (env_plain (env_cons (ok57 n) body57 (env_cons (ok118 n) body118 (env_cons (ok119 n) body119 (env_cons (ok120 n) body120 env_nil))))) follows (ev37 n)

-- impl_Drive
def sm44 : Sm := ⟨[.val true [I, I, (.sl 3 (.one I))], .val false [(.sl 55 k6)], .val false [I]], [(false, [((.sl 55 k6), 2)]), (false, [((.sl 4 (.one .bool)), 2)])]⟩
def an44 : An := ⟨fun b => match b with
    | 15 => some [.own 9 4 (.one .bool) 2 false]
    | _ => none,
  fun b => match b with
    | 0 => some ([.own 9 4 (.one .bool) 2 false, .slot 19 I], false)
    | 2 => some ([.own 8 55 k6 2 false, .slot 12 I, .own 9 4 (.one .bool) 2 false], false)
    | 4 => some ([.slot 43 I, .own 9 4 (.one .bool) 2 false], false)
    | _ => none,
  fun _ => none,
  fun _ => []⟩
def s44 (n : Nat) : SmF := ⟨sm44, fun x => N.impl_Drive n x.1 x.2.1 x.2.2.1 x.2.2.2.1 x.2.2.2.2⟩
def env44 (n : Nat) : List (FuncId × SmF) := [(37, s37 n), (118, s118 n), (120, s120 n)]
theorem body44 : HasBody Try.prog 44 := ⟨_, _, Try.func44, rfl, by kernel_rfl⟩
theorem ev44 (n : Nat) (x : sm44.ins.D) : evFn (find tbl) (plain (env44 n)) an44 n Try.f44 sm44 x = N.impl_Drive n x.1 x.2.1 x.2.2.1 x.2.2.2.1 x.2.2.2.2 := by kernel_rfl
theorem ok44 (n : Nat) : FnOk Try.prog TT 44 (s44 n) := fn_native (an := an44) (n := n) Try.func44 rfl (by kernel_rfl) tblOk (env_plain (env_cons (ok37 n) body37 (env_cons (ok118 n) body118 (env_cons (ok120 n) body120 env_nil)))) follows (ev44 n)

-- laws_eqRobot
def sm121 : Sm := ⟨[.val true [I, I, I, .bool, I], .val true [I, I, I, .bool, I]], [(false, [(.bool, 0)])]⟩
def an121 : An := ⟨fun _ => none,
  fun _ => none,
  fun _ => none,
  fun _ => []⟩
def s121 (n : Nat) : SmF := ⟨sm121, fun x => N.laws_eqRobot x.1 x.2.1 x.2.2.1 x.2.2.2.1 x.2.2.2.2.1 x.2.2.2.2.2.1 x.2.2.2.2.2.2.1 x.2.2.2.2.2.2.2.1 x.2.2.2.2.2.2.2.2.1 x.2.2.2.2.2.2.2.2.2⟩
def env121 (n : Nat) : List (FuncId × SmF) := []
theorem body121 : HasBody Try.prog 121 := ⟨_, _, Try.func121, rfl, by kernel_rfl⟩
theorem ev121 (n : Nat) (x : sm121.ins.D) : evFn (find tbl) (plain (env121 n)) an121 n Try.f121 sm121 x = N.laws_eqRobot x.1 x.2.1 x.2.2.1 x.2.2.2.1 x.2.2.2.2.1 x.2.2.2.2.2.1 x.2.2.2.2.2.2.1 x.2.2.2.2.2.2.2.1 x.2.2.2.2.2.2.2.2.1 x.2.2.2.2.2.2.2.2.2 := by kernel_rfl
theorem ok121 (n : Nat) : FnOk Try.prog TT 121 (s121 n) := fn_native (an := an121) (n := n) Try.func121 rfl (by kernel_rfl) tblOk (env_plain env_nil) follows (ev121 n)

-- laws_eqRobotS
def sm38 : Sm := ⟨[.val false [(.sl 55 k6)], .val false [(.sl 55 k6)]], [(false, [(.bool, 0)])]⟩
def an38 : An := ⟨fun _ => none,
  fun b => match b with
    | 0 => some ([.slot 5 I], true)
    | _ => none,
  fun _ => none,
  fun _ => []⟩
def s38 (n : Nat) : SmF := ⟨sm38, fun x => N.laws_eqRobotS n x.1 x.2⟩
def env38 (n : Nat) : List (FuncId × SmF) := [(121, s121 n)]
theorem body38 : HasBody Try.prog 38 := ⟨_, _, Try.func38, rfl, by kernel_rfl⟩
theorem ev38 (n : Nat) (x : sm38.ins.D) : evFn (find tbl) (plain (env38 n)) an38 n Try.f38 sm38 x = N.laws_eqRobotS n x.1 x.2 := by kernel_rfl
theorem ok38 (n : Nat) : FnOk Try.prog TT 38 (s38 n) := fn_native (an := an38) (n := n) Try.func38 rfl (by kernel_rfl) tblOk (env_plain (env_cons (ok121 n) body121 env_nil)) follows (ev38 n)

-- laws_eqBoolS
def sm45 : Sm := ⟨[.val false [(.sl 4 (.one .bool))], .val false [(.sl 4 (.one .bool))]], [(false, [(.bool, 0)])]⟩
def an45 : An := ⟨fun _ => none,
  fun b => match b with
    | 0 => some ([.slot 5 I], true)
    | _ => none,
  fun _ => none,
  fun _ => []⟩
def s45 (n : Nat) : SmF := ⟨sm45, fun x => N.laws_eqBoolS n x.1 x.2⟩
def env45 (n : Nat) : List (FuncId × SmF) := []
theorem body45 : HasBody Try.prog 45 := ⟨_, _, Try.func45, rfl, by kernel_rfl⟩
theorem ev45 (n : Nat) (x : sm45.ins.D) : evFn (find tbl) (plain (env45 n)) an45 n Try.f45 sm45 x = N.laws_eqBoolS n x.1 x.2 := by kernel_rfl
theorem ok45 (n : Nat) : FnOk Try.prog TT 45 (s45 n) := fn_native (an := an45) (n := n) Try.func45 rfl (by kernel_rfl) tblOk (env_plain env_nil) follows (ev45 n)

-- laws_eqIntS
def sm122 : Sm := ⟨[.val false [(.sl 3 (.one I))], .val false [(.sl 3 (.one I))]], [(false, [(.bool, 0)])]⟩
def an122 : An := ⟨fun _ => none,
  fun b => match b with
    | 0 => some ([.slot 5 I], true)
    | _ => none,
  fun _ => none,
  fun _ => []⟩
def s122 (n : Nat) : SmF := ⟨sm122, fun x => N.laws_eqIntS n x.1 x.2⟩
def env122 (n : Nat) : List (FuncId × SmF) := []
theorem body122 : HasBody Try.prog 122 := ⟨_, _, Try.func122, rfl, by kernel_rfl⟩
theorem ev122 (n : Nat) (x : sm122.ins.D) : evFn (find tbl) (plain (env122 n)) an122 n Try.f122 sm122 x = N.laws_eqIntS n x.1 x.2 := by kernel_rfl
theorem ok122 (n : Nat) : FnOk Try.prog TT 122 (s122 n) := fn_native (an := an122) (n := n) Try.func122 rfl (by kernel_rfl) tblOk (env_plain env_nil) follows (ev122 n)

-- laws_eqFloor
def sm39 : Sm := ⟨[.val true [I, I, (.sl 3 (.one I))], .val true [I, I, (.sl 3 (.one I))]], [(false, [(.bool, 0)])]⟩
def an39 : An := ⟨fun _ => none,
  fun _ => none,
  fun _ => none,
  fun _ => []⟩
def s39 (n : Nat) : SmF := ⟨sm39, fun x => N.laws_eqFloor n x.1 x.2.1 x.2.2.1 x.2.2.2.1 x.2.2.2.2.1 x.2.2.2.2.2⟩
def env39 (n : Nat) : List (FuncId × SmF) := [(122, s122 n)]
theorem body39 : HasBody Try.prog 39 := ⟨_, _, Try.func39, rfl, by kernel_rfl⟩
theorem ev39 (n : Nat) (x : sm39.ins.D) : evFn (find tbl) (plain (env39 n)) an39 n Try.f39 sm39 x = N.laws_eqFloor n x.1 x.2.1 x.2.2.1 x.2.2.2.1 x.2.2.2.2.1 x.2.2.2.2.2 := by kernel_rfl
theorem ok39 (n : Nat) : FnOk Try.prog TT 39 (s39 n) := fn_native (an := an39) (n := n) Try.func39 rfl (by kernel_rfl) tblOk (env_plain (env_cons (ok122 n) body122 env_nil)) follows (ev39 n)

-- laws_markIntS
def sm123 : Sm := ⟨[.row false [((.sl 3 (.one I)), 2)], .val false [I]], [(false, [(I, 0)])]⟩
def an123 : An := ⟨fun _ => none,
  fun b => match b with
    | 0 => some ([.slot 1 I, .slot 5 I, .own 0 3 (.one I) 2 true], false)
    | _ => none,
  fun _ => none,
  fun _ => []⟩
def s123 (n : Nat) : SmF := ⟨sm123, fun x => N.laws_markIntS n x.1 x.2⟩
def env123 (n : Nat) : List (FuncId × SmF) := []
theorem body123 : HasBody Try.prog 123 := ⟨_, _, Try.func123, rfl, by kernel_rfl⟩
theorem ev123 (n : Nat) (x : sm123.ins.D) : evFn (find tbl) (plain (env123 n)) an123 n Try.f123 sm123 x = N.laws_markIntS n x.1 x.2 := by kernel_rfl
theorem ok123 (n : Nat) : FnOk Try.prog TT 123 (s123 n) := fn_native (an := an123) (n := n) Try.func123 rfl (by kernel_rfl) tblOk (env_plain env_nil) follows (ev123 n)

-- laws_markFloor
def sm40 : Sm := ⟨[.row true [(I, 0), (I, 0), ((.sl 3 (.one I)), 2)], .val false [I]], [(false, [(I, 0)])]⟩
def an40 : An := ⟨fun _ => none,
  fun _ => none,
  fun _ => none,
  fun _ => []⟩
def s40 (n : Nat) : SmF := ⟨sm40, fun x => N.laws_markFloor n x.1 x.2.1 x.2.2.1 x.2.2.2⟩
def env40 (n : Nat) : List (FuncId × SmF) := [(123, s123 n)]
theorem body40 : HasBody Try.prog 40 := ⟨_, _, Try.func40, rfl, by kernel_rfl⟩
theorem ev40 (n : Nat) (x : sm40.ins.D) : evFn (find tbl) (plain (env40 n)) an40 n Try.f40 sm40 x = N.laws_markFloor n x.1 x.2.1 x.2.2.1 x.2.2.2 := by kernel_rfl
theorem ok40 (n : Nat) : FnOk Try.prog TT 40 (s40 n) := fn_native (an := an40) (n := n) Try.func40 rfl (by kernel_rfl) tblOk (env_plain (env_cons (ok123 n) body123 env_nil)) follows (ev40 n)

-- laws_markRobotS
def sm41 : Sm := ⟨[.row false [((.sl 55 k6), 2)], .val false [I]], [(false, [(I, 0)])]⟩
def an41 : An := ⟨fun _ => none,
  fun b => match b with
    | 0 => some ([.slot 1 I, .slot 5 I, .own 0 55 k6 2 true], false)
    | _ => none,
  fun _ => none,
  fun _ => []⟩
def s41 (n : Nat) : SmF := ⟨sm41, fun x => N.laws_markRobotS n x.1 x.2⟩
def env41 (n : Nat) : List (FuncId × SmF) := []
theorem body41 : HasBody Try.prog 41 := ⟨_, _, Try.func41, rfl, by kernel_rfl⟩
theorem ev41 (n : Nat) (x : sm41.ins.D) : evFn (find tbl) (plain (env41 n)) an41 n Try.f41 sm41 x = N.laws_markRobotS n x.1 x.2 := by kernel_rfl
theorem ok41 (n : Nat) : FnOk Try.prog TT 41 (s41 n) := fn_native (an := an41) (n := n) Try.func41 rfl (by kernel_rfl) tblOk (env_plain env_nil) follows (ev41 n)

-- laws_markBoolS
def sm46 : Sm := ⟨[.row false [((.sl 4 (.one .bool)), 2)], .val false [I]], [(false, [(I, 0)])]⟩
def an46 : An := ⟨fun _ => none,
  fun b => match b with
    | 0 => some ([.slot 1 I, .slot 5 I, .own 0 4 (.one .bool) 2 true], false)
    | _ => none,
  fun _ => none,
  fun _ => []⟩
def s46 (n : Nat) : SmF := ⟨sm46, fun x => N.laws_markBoolS n x.1 x.2⟩
def env46 (n : Nat) : List (FuncId × SmF) := []
theorem body46 : HasBody Try.prog 46 := ⟨_, _, Try.func46, rfl, by kernel_rfl⟩
theorem ev46 (n : Nat) (x : sm46.ins.D) : evFn (find tbl) (plain (env46 n)) an46 n Try.f46 sm46 x = N.laws_markBoolS n x.1 x.2 := by kernel_rfl
theorem ok46 (n : Nat) : FnOk Try.prog TT 46 (s46 n) := fn_native (an := an46) (n := n) Try.func46 rfl (by kernel_rfl) tblOk (env_plain env_nil) follows (ev46 n)

-- laws_heldRobotS
def sm42 : Sm := ⟨[.val false [(.sl 55 k6)], .val false [I]], [(false, [(I, 0)])]⟩
def an42 : An := ⟨fun _ => none,
  fun b => match b with
    | 0 => some ([.slot 1 I, .slot 5 I], true)
    | _ => none,
  fun _ => none,
  fun _ => []⟩
def s42 (n : Nat) : SmF := ⟨sm42, fun x => N.laws_heldRobotS n x.1 x.2⟩
def env42 (n : Nat) : List (FuncId × SmF) := []
theorem body42 : HasBody Try.prog 42 := ⟨_, _, Try.func42, rfl, by kernel_rfl⟩
theorem ev42 (n : Nat) (x : sm42.ins.D) : evFn (find tbl) (plain (env42 n)) an42 n Try.f42 sm42 x = N.laws_heldRobotS n x.1 x.2 := by kernel_rfl
theorem ok42 (n : Nat) : FnOk Try.prog TT 42 (s42 n) := fn_native (an := an42) (n := n) Try.func42 rfl (by kernel_rfl) tblOk (env_plain env_nil) follows (ev42 n)

-- laws_heldBoolS
def sm47 : Sm := ⟨[.val false [(.sl 4 (.one .bool))], .val false [I]], [(false, [(I, 0)])]⟩
def an47 : An := ⟨fun _ => none,
  fun b => match b with
    | 0 => some ([.slot 1 I, .slot 5 I], true)
    | _ => none,
  fun _ => none,
  fun _ => []⟩
def s47 (n : Nat) : SmF := ⟨sm47, fun x => N.laws_heldBoolS n x.1 x.2⟩
def env47 (n : Nat) : List (FuncId × SmF) := []
theorem body47 : HasBody Try.prog 47 := ⟨_, _, Try.func47, rfl, by kernel_rfl⟩
theorem ev47 (n : Nat) (x : sm47.ins.D) : evFn (find tbl) (plain (env47 n)) an47 n Try.f47 sm47 x = N.laws_heldBoolS n x.1 x.2 := by kernel_rfl
theorem ok47 (n : Nat) : FnOk Try.prog TT 47 (s47 n) := fn_native (an := an47) (n := n) Try.func47 rfl (by kernel_rfl) tblOk (env_plain env_nil) follows (ev47 n)

-- laws_FnExactDrive
def sm7 : Sm := ⟨[.val true [I, I, (.sl 3 (.one I))], .val false [(.sl 150 k6)], .val false [I]], [(false, [(.bool, 0)])]⟩
def an7 : An := ⟨fun _ => none,
  fun _ => none,
  fun _ => none,
  fun _ => []⟩
def s7 (n : Nat) : SmF := ⟨sm7, fun x => N.laws_FnExactDrive n x.1 x.2.1 x.2.2.1 x.2.2.2.1 x.2.2.2.2⟩
def env7 (n : Nat) : List (FuncId × SmF) := [(32, s32 n), (33, s33 n), (35, s35 n), (36, s36 n), (38, s38 n), (39, s39 n), (40, s40 n), (41, s41 n), (42, s42 n), (43, s43 n), (44, s44 n), (45, s45 n), (46, s46 n), (47, s47 n)]
theorem body7 : HasBody Try.prog 7 := ⟨_, _, Try.func7, rfl, by kernel_rfl⟩
theorem ev7 (n : Nat) (x : sm7.ins.D) : evFn (find tbl) (plain (env7 n)) an7 n Try.f7 sm7 x = N.laws_FnExactDrive n x.1 x.2.1 x.2.2.1 x.2.2.2.1 x.2.2.2.2 := by kernel_rfl
theorem ok7 (n : Nat) : FnOk Try.prog TT 7 (s7 n) := fn_native (an := an7) (n := n) Try.func7 rfl (by kernel_rfl) tblOk (env_plain (env_cons (ok32 n) body32 (env_cons (ok33 n) body33 (env_cons (ok35 n) body35 (env_cons (ok36 n) body36 (env_cons (ok38 n) body38 (env_cons (ok39 n) body39 (env_cons (ok40 n) body40 (env_cons (ok41 n) body41 (env_cons (ok42 n) body42 (env_cons (ok43 n) body43 (env_cons (ok44 n) body44 (env_cons (ok45 n) body45 (env_cons (ok46 n) body46 (env_cons (ok47 n) body47 env_nil))))))))))))))) follows (ev7 n)
end Go.Proofs.Ytpanenmecamlnaa.Ev
