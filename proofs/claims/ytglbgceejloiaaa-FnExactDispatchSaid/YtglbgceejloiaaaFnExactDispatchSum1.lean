/- Summaries of the functions. Conditions: none. -/
import Derived.Test.YtglbgceejloiaaaFnExactDispatchSum0
namespace Go.Proofs.Ytglbgceejloiaaa.Ev
open Go Go.Ev Go.Proofs
set_option linter.unusedVariables false
set_option maxRecDepth 100000
-- laws_eqRobotS
def sm43 : Sm := ⟨[.val false [(.sl 43 k5)], .val false [(.sl 43 k5)]], [(false, [(.bool, 0)])]⟩
def an43 : An := ⟨fun _ => none,
  fun b => match b with
    | 0 => some ([.slot 5 I], true)
    | _ => none,
  fun _ => none,
  fun _ => []⟩
def s43 (n : Nat) : SmF := ⟨sm43, fun x => N.laws_eqRobotS n x.1 x.2⟩
def env43 (n : Nat) : List (FuncId × SmF) := [(120, s120 n)]
theorem body43 : HasBody Try.prog 43 := ⟨_, _, Try.func43, rfl, by kernel_rfl⟩
theorem ev43 (n : Nat) (x : sm43.ins.D) : evFn (find tbl) (plain (env43 n)) an43 n Try.f43 sm43 x = N.laws_eqRobotS n x.1 x.2 := by kernel_rfl
theorem ok43 (n : Nat) : FnOk Try.prog TT 43 (s43 n) := fn_native (an := an43) (n := n) Try.func43 rfl (by kernel_rfl) tblOk (env_plain (env_cons (ok120 n) body120 env_nil)) follows (ev43 n)

-- laws_eqTask
def sm121 : Sm := ⟨[.val true [I, I, I, I], .val true [I, I, I, I]], [(false, [(.bool, 0)])]⟩
def an121 : An := ⟨fun _ => none,
  fun _ => none,
  fun _ => none,
  fun _ => []⟩
def s121 (n : Nat) : SmF := ⟨sm121, fun x => N.laws_eqTask x.1 x.2.1 x.2.2.1 x.2.2.2.1 x.2.2.2.2.1 x.2.2.2.2.2.1 x.2.2.2.2.2.2.1 x.2.2.2.2.2.2.2⟩
def env121 (n : Nat) : List (FuncId × SmF) := []
theorem body121 : HasBody Try.prog 121 := ⟨_, _, Try.func121, rfl, by kernel_rfl⟩
theorem ev121 (n : Nat) (x : sm121.ins.D) : evFn (find tbl) (plain (env121 n)) an121 n Try.f121 sm121 x = N.laws_eqTask x.1 x.2.1 x.2.2.1 x.2.2.2.1 x.2.2.2.2.1 x.2.2.2.2.2.1 x.2.2.2.2.2.2.1 x.2.2.2.2.2.2.2 := by kernel_rfl
theorem ok121 (n : Nat) : FnOk Try.prog TT 121 (s121 n) := fn_native (an := an121) (n := n) Try.func121 rfl (by kernel_rfl) tblOk (env_plain env_nil) follows (ev121 n)

-- laws_eqTaskS
def sm44 : Sm := ⟨[.val false [(.sl 75 k4)], .val false [(.sl 75 k4)]], [(false, [(.bool, 0)])]⟩
def an44 : An := ⟨fun _ => none,
  fun b => match b with
    | 0 => some ([.slot 5 I], true)
    | _ => none,
  fun _ => none,
  fun _ => []⟩
def s44 (n : Nat) : SmF := ⟨sm44, fun x => N.laws_eqTaskS n x.1 x.2⟩
def env44 (n : Nat) : List (FuncId × SmF) := [(121, s121 n)]
theorem body44 : HasBody Try.prog 44 := ⟨_, _, Try.func44, rfl, by kernel_rfl⟩
theorem ev44 (n : Nat) (x : sm44.ins.D) : evFn (find tbl) (plain (env44 n)) an44 n Try.f44 sm44 x = N.laws_eqTaskS n x.1 x.2 := by kernel_rfl
theorem ok44 (n : Nat) : FnOk Try.prog TT 44 (s44 n) := fn_native (an := an44) (n := n) Try.func44 rfl (by kernel_rfl) tblOk (env_plain (env_cons (ok121 n) body121 env_nil)) follows (ev44 n)

-- laws_eqIntS
def sm122 : Sm := ⟨[.val false [(.sl 3 (.one I))], .val false [(.sl 3 (.one I))]], [(false, [(.bool, 0)])]⟩
def an122 : An := ⟨fun _ => none,
  fun b => match b with
    | 0 => some ([.slot 5 I], true)
    | _ => none,
  fun _ => none,
  fun _ => []⟩
def s122 (n : Nat) : SmF := ⟨sm122, fun x => N.laws_eqIntS n x.1 x.2⟩
def env122 (n : Nat) : List (FuncId × SmF) := []
theorem body122 : HasBody Try.prog 122 := ⟨_, _, Try.func122, rfl, by kernel_rfl⟩
theorem ev122 (n : Nat) (x : sm122.ins.D) : evFn (find tbl) (plain (env122 n)) an122 n Try.f122 sm122 x = N.laws_eqIntS n x.1 x.2 := by kernel_rfl
theorem ok122 (n : Nat) : FnOk Try.prog TT 122 (s122 n) := fn_native (an := an122) (n := n) Try.func122 rfl (by kernel_rfl) tblOk (env_plain env_nil) follows (ev122 n)

-- laws_eqFloor
def sm45 : Sm := ⟨[.val true [I, I, (.sl 3 (.one I))], .val true [I, I, (.sl 3 (.one I))]], [(false, [(.bool, 0)])]⟩
def an45 : An := ⟨fun _ => none,
  fun _ => none,
  fun _ => none,
  fun _ => []⟩
def s45 (n : Nat) : SmF := ⟨sm45, fun x => N.laws_eqFloor n x.1 x.2.1 x.2.2.1 x.2.2.2.1 x.2.2.2.2.1 x.2.2.2.2.2⟩
def env45 (n : Nat) : List (FuncId × SmF) := [(122, s122 n)]
theorem body45 : HasBody Try.prog 45 := ⟨_, _, Try.func45, rfl, by kernel_rfl⟩
theorem ev45 (n : Nat) (x : sm45.ins.D) : evFn (find tbl) (plain (env45 n)) an45 n Try.f45 sm45 x = N.laws_eqFloor n x.1 x.2.1 x.2.2.1 x.2.2.2.1 x.2.2.2.2.1 x.2.2.2.2.2 := by kernel_rfl
theorem ok45 (n : Nat) : FnOk Try.prog TT 45 (s45 n) := fn_native (an := an45) (n := n) Try.func45 rfl (by kernel_rfl) tblOk (env_plain (env_cons (ok122 n) body122 env_nil)) follows (ev45 n)

-- laws_eqStack
def sm194 : Sm := ⟨[.val true [I, I, I], .val true [I, I, I]], [(false, [(.bool, 0)])]⟩
def an194 : An := ⟨fun _ => none,
  fun _ => none,
  fun _ => none,
  fun _ => []⟩
def s194 (n : Nat) : SmF := ⟨sm194, fun x => N.laws_eqStack x.1 x.2.1 x.2.2.1 x.2.2.2.1 x.2.2.2.2.1 x.2.2.2.2.2⟩
def env194 (n : Nat) : List (FuncId × SmF) := []
theorem body194 : HasBody Try.prog 194 := ⟨_, _, Try.func194, rfl, by kernel_rfl⟩
theorem ev194 (n : Nat) (x : sm194.ins.D) : evFn (find tbl) (plain (env194 n)) an194 n Try.f194 sm194 x = N.laws_eqStack x.1 x.2.1 x.2.2.1 x.2.2.2.1 x.2.2.2.2.1 x.2.2.2.2.2 := by kernel_rfl
theorem ok194 (n : Nat) : FnOk Try.prog TT 194 (s194 n) := fn_native (an := an194) (n := n) Try.func194 rfl (by kernel_rfl) tblOk (env_plain env_nil) follows (ev194 n)

-- laws_eqStackS
def sm183 : Sm := ⟨[.val false [(.sl 109 k2)], .val false [(.sl 109 k2)]], [(false, [(.bool, 0)])]⟩
def an183 : An := ⟨fun _ => none,
  fun b => match b with
    | 0 => some ([.slot 5 I], true)
    | _ => none,
  fun _ => none,
  fun _ => []⟩
def s183 (n : Nat) : SmF := ⟨sm183, fun x => N.laws_eqStackS n x.1 x.2⟩
def env183 (n : Nat) : List (FuncId × SmF) := [(194, s194 n)]
theorem body183 : HasBody Try.prog 183 := ⟨_, _, Try.func183, rfl, by kernel_rfl⟩
theorem ev183 (n : Nat) (x : sm183.ins.D) : evFn (find tbl) (plain (env183 n)) an183 n Try.f183 sm183 x = N.laws_eqStackS n x.1 x.2 := by kernel_rfl
theorem ok183 (n : Nat) : FnOk Try.prog TT 183 (s183 n) := fn_native (an := an183) (n := n) Try.func183 rfl (by kernel_rfl) tblOk (env_plain (env_cons (ok194 n) body194 env_nil)) follows (ev183 n)

-- laws_eqPod
def sm163 : Sm := ⟨[.val true [I, I, (.sl 109 k2)], .val true [I, I, (.sl 109 k2)]], [(false, [(.bool, 0)])]⟩
def an163 : An := ⟨fun _ => none,
  fun _ => none,
  fun _ => none,
  fun _ => []⟩
def s163 (n : Nat) : SmF := ⟨sm163, fun x => N.laws_eqPod n x.1 x.2.1 x.2.2.1 x.2.2.2.1 x.2.2.2.2.1 x.2.2.2.2.2⟩
def env163 (n : Nat) : List (FuncId × SmF) := [(183, s183 n)]
theorem body163 : HasBody Try.prog 163 := ⟨_, _, Try.func163, rfl, by kernel_rfl⟩
theorem ev163 (n : Nat) (x : sm163.ins.D) : evFn (find tbl) (plain (env163 n)) an163 n Try.f163 sm163 x = N.laws_eqPod n x.1 x.2.1 x.2.2.1 x.2.2.2.1 x.2.2.2.2.1 x.2.2.2.2.2 := by kernel_rfl
theorem ok163 (n : Nat) : FnOk Try.prog TT 163 (s163 n) := fn_native (an := an163) (n := n) Try.func163 rfl (by kernel_rfl) tblOk (env_plain (env_cons (ok183 n) body183 env_nil)) follows (ev163 n)

-- laws_eqPodS
def sm123 : Sm := ⟨[.val false [(.sl 104 k7)], .val false [(.sl 104 k7)]], [(false, [(.bool, 0)])]⟩
def an123 : An := ⟨fun _ => none,
  fun b => match b with
    | 0 => some ([.slot 5 I], true)
    | _ => none,
  fun _ => none,
  fun _ => []⟩
def s123 (n : Nat) : SmF := ⟨sm123, fun x => N.laws_eqPodS n x.1 x.2⟩
def env123 (n : Nat) : List (FuncId × SmF) := [(163, s163 n)]
theorem body123 : HasBody Try.prog 123 := ⟨_, _, Try.func123, rfl, by kernel_rfl⟩
theorem ev123 (n : Nat) (x : sm123.ins.D) : evFn (find tbl) (plain (env123 n)) an123 n Try.f123 sm123 x = N.laws_eqPodS n x.1 x.2 := by kernel_rfl
theorem ok123 (n : Nat) : FnOk Try.prog TT 123 (s123 n) := fn_native (an := an123) (n := n) Try.func123 rfl (by kernel_rfl) tblOk (env_plain (env_cons (ok163 n) body163 env_nil)) follows (ev123 n)

-- laws_eqStock
def sm46 : Sm := ⟨[.val true [(.sl 104 k7)], .val true [(.sl 104 k7)]], [(false, [(.bool, 0)])]⟩
def an46 : An := ⟨fun _ => none,
  fun _ => none,
  fun _ => none,
  fun _ => []⟩
def s46 (n : Nat) : SmF := ⟨sm46, fun x => N.laws_eqStock n x.1 x.2⟩
def env46 (n : Nat) : List (FuncId × SmF) := [(123, s123 n)]
theorem body46 : HasBody Try.prog 46 := ⟨_, _, Try.func46, rfl, by kernel_rfl⟩
theorem ev46 (n : Nat) (x : sm46.ins.D) : evFn (find tbl) (plain (env46 n)) an46 n Try.f46 sm46 x = N.laws_eqStock n x.1 x.2 := by kernel_rfl
theorem ok46 (n : Nat) : FnOk Try.prog TT 46 (s46 n) := fn_native (an := an46) (n := n) Try.func46 rfl (by kernel_rfl) tblOk (env_plain (env_cons (ok123 n) body123 env_nil)) follows (ev46 n)

-- laws_markIntS
def sm124 : Sm := ⟨[.row false [((.sl 3 (.one I)), 2)], .val false [I]], [(false, [(I, 0)])]⟩
def an124 : An := ⟨fun _ => none,
  fun b => match b with
    | 0 => some ([.slot 1 I, .slot 5 I, .own 0 3 (.one I) 2 true], false)
    | _ => none,
  fun _ => none,
  fun _ => []⟩
def s124 (n : Nat) : SmF := ⟨sm124, fun x => N.laws_markIntS n x.1 x.2⟩
def env124 (n : Nat) : List (FuncId × SmF) := []
theorem body124 : HasBody Try.prog 124 := ⟨_, _, Try.func124, rfl, by kernel_rfl⟩
theorem ev124 (n : Nat) (x : sm124.ins.D) : evFn (find tbl) (plain (env124 n)) an124 n Try.f124 sm124 x = N.laws_markIntS n x.1 x.2 := by kernel_rfl
theorem ok124 (n : Nat) : FnOk Try.prog TT 124 (s124 n) := fn_native (an := an124) (n := n) Try.func124 rfl (by kernel_rfl) tblOk (env_plain env_nil) follows (ev124 n)

-- laws_markFloor
def sm47 : Sm := ⟨[.row true [(I, 0), (I, 0), ((.sl 3 (.one I)), 2)], .val false [I]], [(false, [(I, 0)])]⟩
def an47 : An := ⟨fun _ => none,
  fun _ => none,
  fun _ => none,
  fun _ => []⟩
def s47 (n : Nat) : SmF := ⟨sm47, fun x => N.laws_markFloor n x.1 x.2.1 x.2.2.1 x.2.2.2⟩
def env47 (n : Nat) : List (FuncId × SmF) := [(124, s124 n)]
theorem body47 : HasBody Try.prog 47 := ⟨_, _, Try.func47, rfl, by kernel_rfl⟩
theorem ev47 (n : Nat) (x : sm47.ins.D) : evFn (find tbl) (plain (env47 n)) an47 n Try.f47 sm47 x = N.laws_markFloor n x.1 x.2.1 x.2.2.1 x.2.2.2 := by kernel_rfl
theorem ok47 (n : Nat) : FnOk Try.prog TT 47 (s47 n) := fn_native (an := an47) (n := n) Try.func47 rfl (by kernel_rfl) tblOk (env_plain (env_cons (ok124 n) body124 env_nil)) follows (ev47 n)

-- laws_markStackS
def sm164 : Sm := ⟨[.row false [((.sl 109 k2), 2)], .val false [I]], [(false, [(I, 0)])]⟩
def an164 : An := ⟨fun _ => none,
  fun b => match b with
    | 0 => some ([.slot 1 I, .slot 5 I, .own 0 109 k2 2 true], false)
    | _ => none,
  fun _ => none,
  fun _ => []⟩
def s164 (n : Nat) : SmF := ⟨sm164, fun x => N.laws_markStackS n x.1 x.2⟩
def env164 (n : Nat) : List (FuncId × SmF) := []
theorem body164 : HasBody Try.prog 164 := ⟨_, _, Try.func164, rfl, by kernel_rfl⟩
theorem ev164 (n : Nat) (x : sm164.ins.D) : evFn (find tbl) (plain (env164 n)) an164 n Try.f164 sm164 x = N.laws_markStackS n x.1 x.2 := by kernel_rfl
theorem ok164 (n : Nat) : FnOk Try.prog TT 164 (s164 n) := fn_native (an := an164) (n := n) Try.func164 rfl (by kernel_rfl) tblOk (env_plain env_nil) follows (ev164 n)

-- laws_markPodS
def sm125 : Sm := ⟨[.row false [((.sl 104 k7), 2)], .val false [I]], [(false, [(I, 0)])]⟩
def an125 : An := ⟨fun _ => none,
  fun b => match b with
    | 0 => some ([.slot 1 I, .slot 5 I, .own 0 104 k7 2 true], false)
    | _ => none,
  fun _ => none,
  fun _ => []⟩
def s125 (n : Nat) : SmF := ⟨sm125, fun x => N.laws_markPodS n x.1 x.2⟩
def env125 (n : Nat) : List (FuncId × SmF) := [(164, s164 n)]
theorem body125 : HasBody Try.prog 125 := ⟨_, _, Try.func125, rfl, by kernel_rfl⟩
theorem ev125 (n : Nat) (x : sm125.ins.D) : evFn (find tbl) (plain (env125 n)) an125 n Try.f125 sm125 x = N.laws_markPodS n x.1 x.2 := by kernel_rfl
theorem ok125 (n : Nat) : FnOk Try.prog TT 125 (s125 n) := fn_native (an := an125) (n := n) Try.func125 rfl (by kernel_rfl) tblOk (env_plain (env_cons (ok164 n) body164 env_nil)) follows (ev125 n)

-- laws_markStock
def sm48 : Sm := ⟨[.row true [((.sl 104 k7), 2)], .val false [I]], [(false, [(I, 0)])]⟩
def an48 : An := ⟨fun _ => none,
  fun _ => none,
  fun _ => none,
  fun _ => []⟩
def s48 (n : Nat) : SmF := ⟨sm48, fun x => N.laws_markStock n x.1 x.2⟩
def env48 (n : Nat) : List (FuncId × SmF) := [(125, s125 n)]
theorem body48 : HasBody Try.prog 48 := ⟨_, _, Try.func48, rfl, by kernel_rfl⟩
theorem ev48 (n : Nat) (x : sm48.ins.D) : evFn (find tbl) (plain (env48 n)) an48 n Try.f48 sm48 x = N.laws_markStock n x.1 x.2 := by kernel_rfl
theorem ok48 (n : Nat) : FnOk Try.prog TT 48 (s48 n) := fn_native (an := an48) (n := n) Try.func48 rfl (by kernel_rfl) tblOk (env_plain (env_cons (ok125 n) body125 env_nil)) follows (ev48 n)

-- laws_markRobotS
def sm49 : Sm := ⟨[.row false [((.sl 43 k5), 2)], .val false [I]], [(false, [(I, 0)])]⟩
def an49 : An := ⟨fun _ => none,
  fun b => match b with
    | 0 => some ([.slot 1 I, .slot 5 I, .own 0 43 k5 2 true], false)
    | _ => none,
  fun _ => none,
  fun _ => []⟩
def s49 (n : Nat) : SmF := ⟨sm49, fun x => N.laws_markRobotS n x.1 x.2⟩
def env49 (n : Nat) : List (FuncId × SmF) := []
theorem body49 : HasBody Try.prog 49 := ⟨_, _, Try.func49, rfl, by kernel_rfl⟩
theorem ev49 (n : Nat) (x : sm49.ins.D) : evFn (find tbl) (plain (env49 n)) an49 n Try.f49 sm49 x = N.laws_markRobotS n x.1 x.2 := by kernel_rfl
theorem ok49 (n : Nat) : FnOk Try.prog TT 49 (s49 n) := fn_native (an := an49) (n := n) Try.func49 rfl (by kernel_rfl) tblOk (env_plain env_nil) follows (ev49 n)

-- laws_markTaskS
def sm50 : Sm := ⟨[.row false [((.sl 75 k4), 2)], .val false [I]], [(false, [(I, 0)])]⟩
def an50 : An := ⟨fun _ => none,
  fun b => match b with
    | 0 => some ([.slot 1 I, .slot 5 I, .own 0 75 k4 2 true], false)
    | _ => none,
  fun _ => none,
  fun _ => []⟩
def s50 (n : Nat) : SmF := ⟨sm50, fun x => N.laws_markTaskS n x.1 x.2⟩
def env50 (n : Nat) : List (FuncId × SmF) := []
theorem body50 : HasBody Try.prog 50 := ⟨_, _, Try.func50, rfl, by kernel_rfl⟩
theorem ev50 (n : Nat) (x : sm50.ins.D) : evFn (find tbl) (plain (env50 n)) an50 n Try.f50 sm50 x = N.laws_markTaskS n x.1 x.2 := by kernel_rfl
theorem ok50 (n : Nat) : FnOk Try.prog TT 50 (s50 n) := fn_native (an := an50) (n := n) Try.func50 rfl (by kernel_rfl) tblOk (env_plain env_nil) follows (ev50 n)

-- laws_heldRobotS
def sm51 : Sm := ⟨[.val false [(.sl 43 k5)], .val false [I]], [(false, [(I, 0)])]⟩
def an51 : An := ⟨fun _ => none,
  fun b => match b with
    | 0 => some ([.slot 1 I, .slot 5 I], true)
    | _ => none,
  fun _ => none,
  fun _ => []⟩
def s51 (n : Nat) : SmF := ⟨sm51, fun x => N.laws_heldRobotS n x.1 x.2⟩
def env51 (n : Nat) : List (FuncId × SmF) := []
theorem body51 : HasBody Try.prog 51 := ⟨_, _, Try.func51, rfl, by kernel_rfl⟩
theorem ev51 (n : Nat) (x : sm51.ins.D) : evFn (find tbl) (plain (env51 n)) an51 n Try.f51 sm51 x = N.laws_heldRobotS n x.1 x.2 := by kernel_rfl
theorem ok51 (n : Nat) : FnOk Try.prog TT 51 (s51 n) := fn_native (an := an51) (n := n) Try.func51 rfl (by kernel_rfl) tblOk (env_plain env_nil) follows (ev51 n)

-- laws_heldTaskS
def sm52 : Sm := ⟨[.val false [(.sl 75 k4)], .val false [I]], [(false, [(I, 0)])]⟩
def an52 : An := ⟨fun _ => none,
  fun b => match b with
    | 0 => some ([.slot 1 I, .slot 5 I], true)
    | _ => none,
  fun _ => none,
  fun _ => []⟩
def s52 (n : Nat) : SmF := ⟨sm52, fun x => N.laws_heldTaskS n x.1 x.2⟩
def env52 (n : Nat) : List (FuncId × SmF) := []
theorem body52 : HasBody Try.prog 52 := ⟨_, _, Try.func52, rfl, by kernel_rfl⟩
theorem ev52 (n : Nat) (x : sm52.ins.D) : evFn (find tbl) (plain (env52 n)) an52 n Try.f52 sm52 x = N.laws_heldTaskS n x.1 x.2 := by kernel_rfl
theorem ok52 (n : Nat) : FnOk Try.prog TT 52 (s52 n) := fn_native (an := an52) (n := n) Try.func52 rfl (by kernel_rfl) tblOk (env_plain env_nil) follows (ev52 n)

-- laws_FnExactDispatch
def sm6 : Sm := ⟨[.val true [I, I, (.sl 3 (.one I))], .val true [(.sl 190 k9)], .val false [(.sl 152 k5)], .val false [(.sl 154 k4)]], [(false, [(.bool, 0)])]⟩
def an6 : An := ⟨fun _ => none,
  fun _ => none,
  fun _ => none,
  fun _ => []⟩
def s6 (n : Nat) : SmF := ⟨sm6, fun x => N.laws_FnExactDispatch n x.1 x.2.1 x.2.2.1 x.2.2.2.1 x.2.2.2.2.1 x.2.2.2.2.2⟩
def env6 (n : Nat) : List (FuncId × SmF) := [(26, s26 n), (27, s27 n), (35, s35 n), (36, s36 n), (37, s37 n), (38, s38 n), (39, s39 n), (40, s40 n), (41, s41 n), (42, s42 n), (43, s43 n), (44, s44 n), (45, s45 n), (46, s46 n), (47, s47 n), (48, s48 n), (49, s49 n), (50, s50 n), (51, s51 n), (52, s52 n)]
theorem body6 : HasBody Try.prog 6 := ⟨_, _, Try.func6, rfl, by kernel_rfl⟩
theorem ev6 (n : Nat) (x : sm6.ins.D) : evFn (find tbl) (plain (env6 n)) an6 n Try.f6 sm6 x = N.laws_FnExactDispatch n x.1 x.2.1 x.2.2.1 x.2.2.2.1 x.2.2.2.2.1 x.2.2.2.2.2 := by kernel_rfl
theorem ok6 (n : Nat) : FnOk Try.prog TT 6 (s6 n) := fn_native (an := an6) (n := n) Try.func6 rfl (by kernel_rfl) tblOk (env_plain (env_cons (ok26 n) body26 (env_cons (ok27 n) body27 (env_cons (ok35 n) body35 (env_cons (ok36 n) body36 (env_cons (ok37 n) body37 (env_cons (ok38 n) body38 (env_cons (ok39 n) body39 (env_cons (ok40 n) body40 (env_cons (ok41 n) body41 (env_cons (ok42 n) body42 (env_cons (ok43 n) body43 (env_cons (ok44 n) body44 (env_cons (ok45 n) body45 (env_cons (ok46 n) body46 (env_cons (ok47 n) body47 (env_cons (ok48 n) body48 (env_cons (ok49 n) body49 (env_cons (ok50 n) body50 (env_cons (ok51 n) body51 (env_cons (ok52 n) body52 env_nil))))))))))))))))))))) follows (ev6 n)
end Go.Proofs.Ytglbgceejloiaaa.Ev
