/- Tables of types; summaries of the functions. Conditions: none. -/
import Derived.Test.YtjbfgbgibmebfaaLib4
import Derived.Test.YtjbfgbgibmebfaaFnExactDepotNewNat
import Derived.Test.YtjbfgbgibmebfaaProg
import Derived.KernelRfl
namespace Go.Proofs.Ytjbfgbgibmebfaa.Ev
open Go Go.Ev Go.Proofs
set_option linter.unusedVariables false
set_option maxRecDepth 100000

abbrev I : L := .int .i64
/-- Package-level variables that are looked at. -/
abbrev TT : List (String × Array Value) := []
def k0 : Ls := (.cons .str (.one (.int .u64)))
def k1 : Ls := (.cons I (.one I))
def k2 : Ls := (.cons .str (.one (.int .u8)))
def k3 : Ls := (.cons I (.cons I (.one I)))
def k4 : Ls := (.cons .bool (.cons I (.one I)))
def k5 : Ls := (.cons I (.cons I (.cons .bool (.one (.int .u8)))))
def k6 : Ls := (.cons I (.cons I (.cons I (.one I))))
def k7 : Ls := (.cons I (.cons I (.cons I (.cons .bool (.one I)))))
def k8 : Ls := (.cons I (.cons I (.one (.sl 3 (.one I)))))
def k9 : Ls := (.cons I (.cons I (.one (.sl 144 k3))))
def k10 : Ls := (.cons I (.cons I (.one (.sl 270 k3))))
def k11 : Ls := (.cons (.sl 5 (.one (.int .u8))) (.cons I (.one I)))
def k12 : Ls := (.cons I (.cons I (.cons (.sl 236 k1) (.cons (.sl 97 k3) (.one I)))))
def k13 : Ls := (.cons I (.cons I (.cons (.sl 3 (.one I)) (.cons (.sl 118 k7) (.one (.sl 3 (.one I)))))))
def k14 : Ls := (.cons (.sl 3 (.one I)) (.cons I (.cons .bool (.cons I (.cons I (.cons I (.cons (.sl 3 (.one I)) (.one (.sl 201 k4)))))))))
def k15 : Ls := (.cons (.sl 3 (.one I)) (.cons I (.cons .bool (.cons I (.cons I (.cons I (.cons (.sl 3 (.one I)) (.one (.sl 179 k4)))))))))
def k16 : Ls := (.cons I (.one (.sl 90 k12)))
def k17 : Ls := (.cons I (.cons I (.cons (.sl 3 (.one I)) (.cons (.sl 118 k7) (.cons (.sl 22 (.one (.sl 3 (.one I)))) (.one (.sl 3 (.one I))))))))
def k18 : Ls := (.cons I (.cons I (.cons (.sl 3 (.one I)) (.cons (.sl 142 k9) (.cons I (.cons (.sl 90 k12) (.cons (.sl 118 k7) (.cons (.sl 95 k6) (.cons (.sl 3 (.one I)) (.cons (.sl 3 (.one I)) (.one I)))))))))))
def tbl : List (Nat × Ty) := [
  (3, ⟨false, (.one I), []⟩),
  (4, ⟨false, (.one .bool), []⟩),
  (22, ⟨false, (.one (.sl 3 (.one I))), []⟩),
  (36, ⟨true, k8, [(0, 3), (1, 3), (2, 22)]⟩),
  (37, ⟨false, (.one (.sl 206 k10)), []⟩),
  (39, ⟨true, (.one (.sl 206 k10)), [(0, 37)]⟩),
  (42, ⟨true, k8, [(0, 3), (1, 3), (2, 22)]⟩),
  (43, ⟨false, (.one (.sl 142 k9)), []⟩),
  (45, ⟨true, (.one (.sl 142 k9)), [(0, 43)]⟩),
  (46, ⟨false, (.one (.sl 90 k12)), []⟩),
  (48, ⟨true, k16, [(0, 3), (1, 46)]⟩),
  (49, ⟨false, (.one (.sl 118 k7)), []⟩),
  (50, ⟨false, (.one (.sl 95 k6)), []⟩),
  (52, ⟨true, k18, [(0, 42), (3, 45), (4, 48), (6, 49), (7, 50), (8, 22), (9, 22), (10, 3)]⟩),
  (87, ⟨false, (.one (.sl 236 k1)), []⟩),
  (88, ⟨false, (.one (.sl 97 k3)), []⟩),
  (90, ⟨true, k12, [(0, 3), (1, 3), (2, 87), (3, 88), (4, 3)]⟩),
  (95, ⟨true, k6, [(0, 3), (1, 3), (2, 3), (3, 3)]⟩),
  (97, ⟨true, k3, [(0, 3), (1, 3), (2, 3)]⟩),
  (118, ⟨true, k7, [(0, 3), (1, 3), (2, 3), (3, 4), (4, 3)]⟩),
  (140, ⟨false, (.one (.sl 144 k3)), []⟩),
  (142, ⟨true, k9, [(0, 3), (1, 3), (2, 140)]⟩),
  (144, ⟨true, k3, [(0, 3), (1, 3), (2, 3)]⟩),
  (204, ⟨false, (.one (.sl 270 k3)), []⟩),
  (206, ⟨true, k10, [(0, 3), (1, 3), (2, 204)]⟩),
  (236, ⟨true, k1, [(0, 3), (1, 3)]⟩),
  (270, ⟨true, k3, [(0, 3), (1, 3), (2, 3)]⟩)]
theorem tblOk : tbl.all (fun p => tyB Try.prog p.1 p.2) = true := by kernel_rfl
theorem follows : Try.prog.follows .mixedOrders = true := by kernel_rfl
-- laws_szIntS
def sm81 : Sm := ⟨[.val false [(.sl 3 (.one I))], .val false [I]], [(false, [(I, 0)])]⟩
def an81 : An := ⟨fun _ => none,
  fun _ => none,
  fun _ => none⟩
def s81 (n : Nat) : SmF := ⟨sm81, fun x => N.laws_szIntS x.1 x.2⟩
def env81 (n : Nat) : List (FuncId × SmF) := []
theorem ev81 (n : Nat) (x : sm81.ins.D) : evFn (find tbl) (find (env81 n)) an81 n Try.f81 sm81 x = N.laws_szIntS x.1 x.2 := by kernel_rfl
theorem ok81 (n : Nat) : FnOk Try.prog TT 81 (s81 n) := fn_native (an := an81) (n := n) Try.func81 rfl (by kernel_rfl) tblOk env_nil follows (ev81 n)
theorem body81 : HasBody Try.prog 81 := ⟨_, _, Try.func81, rfl, by kernel_rfl⟩

-- laws_szFloor
def sm20 : Sm := ⟨[.val true [I, I, (.sl 3 (.one I))], .val false [I]], [(false, [(I, 0)])]⟩
def an20 : An := ⟨fun _ => none,
  fun _ => none,
  fun _ => none⟩
def s20 (n : Nat) : SmF := ⟨sm20, fun x => N.laws_szFloor x.1 x.2.1 x.2.2.1 x.2.2.2⟩
def env20 (n : Nat) : List (FuncId × SmF) := [(81, s81 n)]
theorem ev20 (n : Nat) (x : sm20.ins.D) : evFn (find tbl) (find (env20 n)) an20 n Try.f20 sm20 x = N.laws_szFloor x.1 x.2.1 x.2.2.1 x.2.2.2 := by kernel_rfl
theorem ok20 (n : Nat) : FnOk Try.prog TT 20 (s20 n) := fn_native (an := an20) (n := n) Try.func20 rfl (by kernel_rfl) tblOk (env_cons (ok81 n) body81 env_nil) follows (ev20 n)
theorem body20 : HasBody Try.prog 20 := ⟨_, _, Try.func20, rfl, by kernel_rfl⟩

-- laws_szStackS
def sm218 : Sm := ⟨[.val false [(.sl 270 k3)], .val false [I]], [(false, [(I, 0)])]⟩
def an218 : An := ⟨fun _ => none,
  fun _ => none,
  fun _ => none⟩
def s218 (n : Nat) : SmF := ⟨sm218, fun x => N.laws_szStackS x.1 x.2⟩
def env218 (n : Nat) : List (FuncId × SmF) := []
theorem ev218 (n : Nat) (x : sm218.ins.D) : evFn (find tbl) (find (env218 n)) an218 n Try.f218 sm218 x = N.laws_szStackS x.1 x.2 := by kernel_rfl
theorem ok218 (n : Nat) : FnOk Try.prog TT 218 (s218 n) := fn_native (an := an218) (n := n) Try.func218 rfl (by kernel_rfl) tblOk env_nil follows (ev218 n)
theorem body218 : HasBody Try.prog 218 := ⟨_, _, Try.func218, rfl, by kernel_rfl⟩

-- laws_szPod
def sm179 : Sm := ⟨[.val true [I, I, (.sl 270 k3)], .val false [I]], [(false, [(I, 0)])]⟩
def an179 : An := ⟨fun _ => none,
  fun _ => none,
  fun _ => none⟩
def s179 (n : Nat) : SmF := ⟨sm179, fun x => N.laws_szPod x.1 x.2.1 x.2.2.1 x.2.2.2⟩
def env179 (n : Nat) : List (FuncId × SmF) := [(218, s218 n)]
theorem ev179 (n : Nat) (x : sm179.ins.D) : evFn (find tbl) (find (env179 n)) an179 n Try.f179 sm179 x = N.laws_szPod x.1 x.2.1 x.2.2.1 x.2.2.2 := by kernel_rfl
theorem ok179 (n : Nat) : FnOk Try.prog TT 179 (s179 n) := fn_native (an := an179) (n := n) Try.func179 rfl (by kernel_rfl) tblOk (env_cons (ok218 n) body218 env_nil) follows (ev179 n)
theorem body179 : HasBody Try.prog 179 := ⟨_, _, Try.func179, rfl, by kernel_rfl⟩

-- laws_szPodS
def sm98 : Sm := ⟨[.val false [(.sl 206 k10)], .val false [I]], [(false, [(I, 0)])]⟩
def an98 : An := ⟨fun _ => none,
  fun b => match b with
    | 0 => some ([.slot 1 I, .slot 5 I], true)
    | _ => none,
  fun _ => none⟩
def s98 (n : Nat) : SmF := ⟨sm98, fun x => N.laws_szPodS n x.1 x.2⟩
def env98 (n : Nat) : List (FuncId × SmF) := [(179, s179 n)]
theorem ev98 (n : Nat) (x : sm98.ins.D) : evFn (find tbl) (find (env98 n)) an98 n Try.f98 sm98 x = N.laws_szPodS n x.1 x.2 := by kernel_rfl
theorem ok98 (n : Nat) : FnOk Try.prog TT 98 (s98 n) := fn_native (an := an98) (n := n) Try.func98 rfl (by kernel_rfl) tblOk (env_cons (ok179 n) body179 env_nil) follows (ev98 n)
theorem body98 : HasBody Try.prog 98 := ⟨_, _, Try.func98, rfl, by kernel_rfl⟩

-- laws_szStock
def sm21 : Sm := ⟨[.val true [(.sl 206 k10)], .val false [I]], [(false, [(I, 0)])]⟩
def an21 : An := ⟨fun _ => none,
  fun _ => none,
  fun _ => none⟩
def s21 (n : Nat) : SmF := ⟨sm21, fun x => N.laws_szStock n x.1 x.2⟩
def env21 (n : Nat) : List (FuncId × SmF) := [(98, s98 n)]
theorem ev21 (n : Nat) (x : sm21.ins.D) : evFn (find tbl) (find (env21 n)) an21 n Try.f21 sm21 x = N.laws_szStock n x.1 x.2 := by kernel_rfl
theorem ok21 (n : Nat) : FnOk Try.prog TT 21 (s21 n) := fn_native (an := an21) (n := n) Try.func21 rfl (by kernel_rfl) tblOk (env_cons (ok98 n) body98 env_nil) follows (ev21 n)
theorem body21 : HasBody Try.prog 21 := ⟨_, _, Try.func21, rfl, by kernel_rfl⟩

-- laws_toIntS
def sm87 : Sm := ⟨[.val false [(.sl 3 (.one I))]], [(false, [((.sl 3 (.one I)), 2)])]⟩
def an87 : An := ⟨fun _ => none,
  fun b => match b with
    | 0 => some ([.slot 4 I, .own 3 3 (.one I) 2 false], false)
    | _ => none,
  fun _ => none⟩
def s87 (n : Nat) : SmF := ⟨sm87, fun x => N.laws_toIntS n x⟩
def env87 (n : Nat) : List (FuncId × SmF) := []
theorem ev87 (n : Nat) (x : sm87.ins.D) : evFn (find tbl) (find (env87 n)) an87 n Try.f87 sm87 x = N.laws_toIntS n x := by kernel_rfl
theorem ok87 (n : Nat) : FnOk Try.prog TT 87 (s87 n) := fn_native (an := an87) (n := n) Try.func87 rfl (by kernel_rfl) tblOk env_nil follows (ev87 n)
theorem body87 : HasBody Try.prog 87 := ⟨_, _, Try.func87, rfl, by kernel_rfl⟩

-- laws_toFloor
def sm23 : Sm := ⟨[.val true [I, I, (.sl 3 (.one I))]], [(true, [(I, 0), (I, 0), ((.sl 3 (.one I)), 2)])]⟩
def an23 : An := ⟨fun _ => none,
  fun _ => none,
  fun _ => none⟩
def s23 (n : Nat) : SmF := ⟨sm23, fun x => N.laws_toFloor n x.1 x.2.1 x.2.2⟩
def env23 (n : Nat) : List (FuncId × SmF) := [(87, s87 n)]
theorem ev23 (n : Nat) (x : sm23.ins.D) : evFn (find tbl) (find (env23 n)) an23 n Try.f23 sm23 x = N.laws_toFloor n x.1 x.2.1 x.2.2 := by kernel_rfl
theorem ok23 (n : Nat) : FnOk Try.prog TT 23 (s23 n) := fn_native (an := an23) (n := n) Try.func23 rfl (by kernel_rfl) tblOk (env_cons (ok87 n) body87 env_nil) follows (ev23 n)
theorem body23 : HasBody Try.prog 23 := ⟨_, _, Try.func23, rfl, by kernel_rfl⟩

-- laws_toStack
def sm248 : Sm := ⟨[.val true [I, I, I]], [(true, [(I, 0), (I, 0), (I, 0)])]⟩
def an248 : An := ⟨fun _ => none,
  fun _ => none,
  fun _ => none⟩
def s248 (n : Nat) : SmF := ⟨sm248, fun x => N.laws_toStack x.1 x.2.1 x.2.2⟩
def env248 (n : Nat) : List (FuncId × SmF) := []
theorem ev248 (n : Nat) (x : sm248.ins.D) : evFn (find tbl) (find (env248 n)) an248 n Try.f248 sm248 x = N.laws_toStack x.1 x.2.1 x.2.2 := by kernel_rfl
theorem ok248 (n : Nat) : FnOk Try.prog TT 248 (s248 n) := fn_native (an := an248) (n := n) Try.func248 rfl (by kernel_rfl) tblOk env_nil follows (ev248 n)
theorem body248 : HasBody Try.prog 248 := ⟨_, _, Try.func248, rfl, by kernel_rfl⟩

-- laws_toStackS
def sm219 : Sm := ⟨[.val false [(.sl 270 k3)]], [(false, [((.sl 144 k3), 2)])]⟩
def an219 : An := ⟨fun _ => none,
  fun b => match b with
    | 0 => some ([.slot 4 I, .own 3 144 k3 2 false], false)
    | _ => none,
  fun _ => none⟩
def s219 (n : Nat) : SmF := ⟨sm219, fun x => N.laws_toStackS n x⟩
def env219 (n : Nat) : List (FuncId × SmF) := [(248, s248 n)]
theorem ev219 (n : Nat) (x : sm219.ins.D) : evFn (find tbl) (find (env219 n)) an219 n Try.f219 sm219 x = N.laws_toStackS n x := by kernel_rfl
theorem ok219 (n : Nat) : FnOk Try.prog TT 219 (s219 n) := fn_native (an := an219) (n := n) Try.func219 rfl (by kernel_rfl) tblOk (env_cons (ok248 n) body248 env_nil) follows (ev219 n)
theorem body219 : HasBody Try.prog 219 := ⟨_, _, Try.func219, rfl, by kernel_rfl⟩

-- laws_toPod
def sm181 : Sm := ⟨[.val true [I, I, (.sl 270 k3)]], [(true, [(I, 0), (I, 0), ((.sl 144 k3), 2)])]⟩
def an181 : An := ⟨fun _ => none,
  fun _ => none,
  fun _ => none⟩
def s181 (n : Nat) : SmF := ⟨sm181, fun x => N.laws_toPod n x.1 x.2.1 x.2.2⟩
def env181 (n : Nat) : List (FuncId × SmF) := [(219, s219 n)]
theorem ev181 (n : Nat) (x : sm181.ins.D) : evFn (find tbl) (find (env181 n)) an181 n Try.f181 sm181 x = N.laws_toPod n x.1 x.2.1 x.2.2 := by kernel_rfl
theorem ok181 (n : Nat) : FnOk Try.prog TT 181 (s181 n) := fn_native (an := an181) (n := n) Try.func181 rfl (by kernel_rfl) tblOk (env_cons (ok219 n) body219 env_nil) follows (ev181 n)
theorem body181 : HasBody Try.prog 181 := ⟨_, _, Try.func181, rfl, by kernel_rfl⟩

-- laws_toPodS
def sm105 : Sm := ⟨[.val false [(.sl 206 k10)]], [(false, [((.sl 142 k9), 2)])]⟩
def an105 : An := ⟨fun _ => none,
  fun b => match b with
    | 0 => some ([.slot 4 I, .own 3 142 k9 2 false], false)
    | _ => none,
  fun _ => none⟩
def s105 (n : Nat) : SmF := ⟨sm105, fun x => N.laws_toPodS n x⟩
def env105 (n : Nat) : List (FuncId × SmF) := [(181, s181 n)]
theorem ev105 (n : Nat) (x : sm105.ins.D) : evFn (find tbl) (find (env105 n)) an105 n Try.f105 sm105 x = N.laws_toPodS n x := by kernel_rfl
theorem ok105 (n : Nat) : FnOk Try.prog TT 105 (s105 n) := fn_native (an := an105) (n := n) Try.func105 rfl (by kernel_rfl) tblOk (env_cons (ok181 n) body181 env_nil) follows (ev105 n)
theorem body105 : HasBody Try.prog 105 := ⟨_, _, Try.func105, rfl, by kernel_rfl⟩

-- laws_toStock
def sm24 : Sm := ⟨[.val true [(.sl 206 k10)]], [(true, [((.sl 142 k9), 2)])]⟩
def an24 : An := ⟨fun _ => none,
  fun _ => none,
  fun _ => none⟩
def s24 (n : Nat) : SmF := ⟨sm24, fun x => N.laws_toStock n x⟩
def env24 (n : Nat) : List (FuncId × SmF) := [(105, s105 n)]
theorem ev24 (n : Nat) (x : sm24.ins.D) : evFn (find tbl) (find (env24 n)) an24 n Try.f24 sm24 x = N.laws_toStock n x := by kernel_rfl
theorem ok24 (n : Nat) : FnOk Try.prog TT 24 (s24 n) := fn_native (an := an24) (n := n) Try.func24 rfl (by kernel_rfl) tblOk (env_cons (ok105 n) body105 env_nil) follows (ev24 n)
theorem body24 : HasBody Try.prog 24 := ⟨_, _, Try.func24, rfl, by kernel_rfl⟩

-- spec_l1In
def sm102 : Sm := ⟨[.val false [I], .val false [I], .val false [I]], [(false, [(.bool, 0)])]⟩
def an102 : An := ⟨fun _ => none,
  fun _ => none,
  fun _ => none⟩
def s102 (n : Nat) : SmF := ⟨sm102, fun x => N.spec_l1In x.1 x.2.1 x.2.2⟩
def env102 (n : Nat) : List (FuncId × SmF) := []
theorem ev102 (n : Nat) (x : sm102.ins.D) : evFn (find tbl) (find (env102 n)) an102 n Try.f102 sm102 x = N.spec_l1In x.1 x.2.1 x.2.2 := by kernel_rfl
theorem ok102 (n : Nat) : FnOk Try.prog TT 102 (s102 n) := fn_native (an := an102) (n := n) Try.func102 rfl (by kernel_rfl) tblOk env_nil follows (ev102 n)
theorem body102 : HasBody Try.prog 102 := ⟨_, _, Try.func102, rfl, by kernel_rfl⟩

-- spec_FloorOk
def sm99 : Sm := ⟨[.val true [I, I, (.sl 3 (.one I))]], [(false, [(.bool, 0)])]⟩
def an99 : An := ⟨fun _ => none,
  fun b => match b with
    | 0 => some ([.slot 3 I], true)
    | _ => none,
  fun _ => none⟩
def s99 (n : Nat) : SmF := ⟨sm99, fun x => N.spec_FloorOk n x.1 x.2.1 x.2.2⟩
def env99 (n : Nat) : List (FuncId × SmF) := [(102, s102 n)]
theorem ev99 (n : Nat) (x : sm99.ins.D) : evFn (find tbl) (find (env99 n)) an99 n Try.f99 sm99 x = N.spec_FloorOk n x.1 x.2.1 x.2.2 := by kernel_rfl
theorem ok99 (n : Nat) : FnOk Try.prog TT 99 (s99 n) := fn_native (an := an99) (n := n) Try.func99 rfl (by kernel_rfl) tblOk (env_cons (ok102 n) body102 env_nil) follows (ev99 n)
theorem body99 : HasBody Try.prog 99 := ⟨_, _, Try.func99, rfl, by kernel_rfl⟩

-- spec_l5Stacks
def sm171 : Sm := ⟨[.val false [(.sl 144 k3)]], [(false, [(.bool, 0)])]⟩
def an171 : An := ⟨fun _ => none,
  fun b => match b with
    | 0 => some ([.slot 3 I], true)
    | _ => none,
  fun _ => none⟩
def s171 (n : Nat) : SmF := ⟨sm171, fun x => N.spec_l5Stacks n x⟩
def env171 (n : Nat) : List (FuncId × SmF) := [(102, s102 n)]
theorem ev171 (n : Nat) (x : sm171.ins.D) : evFn (find tbl) (find (env171 n)) an171 n Try.f171 sm171 x = N.spec_l5Stacks n x := by kernel_rfl
theorem ok171 (n : Nat) : FnOk Try.prog TT 171 (s171 n) := fn_native (an := an171) (n := n) Try.func171 rfl (by kernel_rfl) tblOk (env_cons (ok102 n) body102 env_nil) follows (ev171 n)
theorem body171 : HasBody Try.prog 171 := ⟨_, _, Try.func171, rfl, by kernel_rfl⟩

-- spec_StockOk
def sm78 : Sm := ⟨[.val true [(.sl 142 k9)]], [(false, [(.bool, 0)])]⟩
def an78 : An := ⟨fun _ => none,
  fun b => match b with
    | 0 => some ([.slot 3 I], true)
    | 2 => some ([.slot 5 I], true)
    | _ => none,
  fun _ => none⟩
def s78 (n : Nat) : SmF := ⟨sm78, fun x => N.spec_StockOk n x⟩
def env78 (n : Nat) : List (FuncId × SmF) := [(102, s102 n), (171, s171 n)]
theorem ev78 (n : Nat) (x : sm78.ins.D) : evFn (find tbl) (find (env78 n)) an78 n Try.f78 sm78 x = N.spec_StockOk n x := by kernel_rfl
theorem ok78 (n : Nat) : FnOk Try.prog TT 78 (s78 n) := fn_native (an := an78) (n := n) Try.func78 rfl (by kernel_rfl) tblOk (env_cons (ok102 n) body102 (env_cons (ok171 n) body171 env_nil)) follows (ev78 n)
theorem body78 : HasBody Try.prog 78 := ⟨_, _, Try.func78, rfl, by kernel_rfl⟩

-- spec_l1Copy
def sm100 : Sm := ⟨[.val true [I, I, (.sl 3 (.one I))]], [(true, [(I, 0), (I, 0), ((.sl 3 (.one I)), 2)])]⟩
def an100 : An := ⟨fun _ => none,
  fun _ => none,
  fun _ => none⟩
def s100 (n : Nat) : SmF := ⟨sm100, fun x => N.spec_l1Copy x.1 x.2.1 x.2.2⟩
def env100 (n : Nat) : List (FuncId × SmF) := []
theorem ev100 (n : Nat) (x : sm100.ins.D) : evFn (find tbl) (find (env100 n)) an100 n Try.f100 sm100 x = N.spec_l1Copy x.1 x.2.1 x.2.2 := by kernel_rfl
theorem ok100 (n : Nat) : FnOk Try.prog TT 100 (s100 n) := fn_native (an := an100) (n := n) Try.func100 rfl (by kernel_rfl) tblOk env_nil follows (ev100 n)
theorem body100 : HasBody Try.prog 100 := ⟨_, _, Try.func100, rfl, by kernel_rfl⟩

-- spec_l5Copy
def sm101 : Sm := ⟨[.val true [(.sl 142 k9)]], [(true, [((.sl 142 k9), 2)])]⟩
def an101 : An := ⟨fun _ => none,
  fun b => match b with
    | 0 => some ([.slot 4 I, .box 3 [some ((.sl 142 k9), 2)]], false)
    | _ => none,
  fun _ => none⟩
def s101 (n : Nat) : SmF := ⟨sm101, fun x => N.spec_l5Copy n x⟩
def env101 (n : Nat) : List (FuncId × SmF) := []
theorem ev101 (n : Nat) (x : sm101.ins.D) : evFn (find tbl) (find (env101 n)) an101 n Try.f101 sm101 x = N.spec_l5Copy n x := by kernel_rfl
theorem ok101 (n : Nat) : FnOk Try.prog TT 101 (s101 n) := fn_native (an := an101) (n := n) Try.func101 rfl (by kernel_rfl) tblOk env_nil follows (ev101 n)
theorem body101 : HasBody Try.prog 101 := ⟨_, _, Try.func101, rfl, by kernel_rfl⟩

-- spec_l5Stack
def sm180 : Sm := ⟨[.val true [I, I, (.sl 144 k3)], .val false [I]], [(true, [(I, 0), (I, 0), (I, 0)])]⟩
def an180 : An := ⟨fun _ => none,
  fun b => match b with
    | 0 => some ([.slot 5 I, .box 4 [some (I, 0), some (I, 0), some (I, 0)]], true)
    | _ => none,
  fun _ => none⟩
def s180 (n : Nat) : SmF := ⟨sm180, fun x => N.spec_l5Stack n x.1 x.2.1 x.2.2.1 x.2.2.2⟩
def env180 (n : Nat) : List (FuncId × SmF) := []
theorem ev180 (n : Nat) (x : sm180.ins.D) : evFn (find tbl) (find (env180 n)) an180 n Try.f180 sm180 x = N.spec_l5Stack n x.1 x.2.1 x.2.2.1 x.2.2.2 := by kernel_rfl
theorem ok180 (n : Nat) : FnOk Try.prog TT 180 (s180 n) := fn_native (an := an180) (n := n) Try.func180 rfl (by kernel_rfl) tblOk env_nil follows (ev180 n)
theorem body180 : HasBody Try.prog 180 := ⟨_, _, Try.func180, rfl, by kernel_rfl⟩

-- spec_Count
def sm103 : Sm := ⟨[.val true [(.sl 142 k9)], .val false [I]], [(false, [(I, 0)])]⟩
def an103 : An := ⟨fun _ => none,
  fun b => match b with
    | 0 => some ([.slot 5 I, .slot 6 I], false)
    | _ => none,
  fun _ => none⟩
def s103 (n : Nat) : SmF := ⟨sm103, fun x => N.spec_Count n x.1 x.2⟩
def env103 (n : Nat) : List (FuncId × SmF) := [(78, s78 n), (180, s180 n)]
theorem ev103 (n : Nat) (x : sm103.ins.D) : evFn (find tbl) (find (env103 n)) an103 n Try.f103 sm103 x = N.spec_Count n x.1 x.2 := by kernel_rfl
theorem ok103 (n : Nat) : FnOk Try.prog TT 103 (s103 n) := fn_native (an := an103) (n := n) Try.func103 rfl (by kernel_rfl) tblOk (env_cons (ok78 n) body78 (env_cons (ok180 n) body180 env_nil)) follows (ev103 n)
theorem body103 : HasBody Try.prog 103 := ⟨_, _, Try.func103, rfl, by kernel_rfl⟩

-- spec_CellsOf
def sm104 : Sm := ⟨[.val true [I, I, (.sl 3 (.one I))], .val false [I]], [(false, [((.sl 3 (.one I)), 2)])]⟩
def an104 : An := ⟨fun _ => none,
  fun b => match b with
    | 0 => some ([.own 5 3 (.one I) 2 false, .slot 6 I], false)
    | _ => none,
  fun b => match b with
    | 7 => some ([.own 5 3 (.one I) 2 false], false)
    | _ => none⟩
def s104 (n : Nat) : SmF := ⟨sm104, fun x => N.spec_CellsOf n x.1 x.2.1 x.2.2.1 x.2.2.2⟩
def env104 (n : Nat) : List (FuncId × SmF) := [(99, s99 n)]
theorem ev104 (n : Nat) (x : sm104.ins.D) : evFn (find tbl) (find (env104 n)) an104 n Try.f104 sm104 x = N.spec_CellsOf n x.1 x.2.1 x.2.2.1 x.2.2.2 := by kernel_rfl
theorem ok104 (n : Nat) : FnOk Try.prog TT 104 (s104 n) := fn_native (an := an104) (n := n) Try.func104 rfl (by kernel_rfl) tblOk (env_cons (ok99 n) body99 env_nil) follows (ev104 n)
theorem body104 : HasBody Try.prog 104 := ⟨_, _, Try.func104, rfl, by kernel_rfl⟩

-- spec_DepotNew
def sm22 : Sm := ⟨[.val true [I, I, (.sl 3 (.one I))], .val true [(.sl 142 k9)]], [(true, [(I, 0), (I, 0), ((.sl 3 (.one I)), 2), ((.sl 142 k9), 2), (I, 0), ((.sl 90 k12), 2), ((.sl 118 k7), 2), ((.sl 95 k6), 2), ((.sl 3 (.one I)), 2), ((.sl 3 (.one I)), 2), (I, 0)]), (false, [(.bool, 0)])]⟩
def an22 : An := ⟨fun _ => none,
  fun b => match b with
    | 0 => some ([.slot 7 I, .box 4 [some (I, 0), some (I, 0), some ((.sl 3 (.one I)), 2), some ((.sl 142 k9), 2), some (I, 0), some ((.sl 90 k12), 2), some ((.sl 118 k7), 2), some ((.sl 95 k6), 2), some ((.sl 3 (.one I)), 2), some ((.sl 3 (.one I)), 2), some (I, 0)]], true)
    | 2 => some ([.slot 8 I, .box 4 [some (I, 0), some (I, 0), some ((.sl 3 (.one I)), 2), some ((.sl 142 k9), 2), some (I, 0), some ((.sl 90 k12), 2), some ((.sl 118 k7), 2), some ((.sl 95 k6), 2), some ((.sl 3 (.one I)), 2), some ((.sl 3 (.one I)), 2), some (I, 0)]], true)
    | 4 => some ([.slot 9 I, .box 6 [some (I, 0), some (I, 0), some ((.sl 3 (.one I)), 2), some ((.sl 142 k9), 2), some (I, 0), some ((.sl 90 k12), 2), some ((.sl 118 k7), 2), some ((.sl 95 k6), 2), some ((.sl 3 (.one I)), 2), some ((.sl 3 (.one I)), 2), some (I, 0)]], false)
    | 6 => some ([.slot 11 I, .box 6 [some (I, 0), some (I, 0), some ((.sl 3 (.one I)), 2), some ((.sl 142 k9), 2), some (I, 0), some ((.sl 90 k12), 2), some ((.sl 118 k7), 2), some ((.sl 95 k6), 2), some ((.sl 3 (.one I)), 2), some ((.sl 3 (.one I)), 2), some (I, 0)]], false)
    | _ => none,
  fun _ => none⟩
def s22 (n : Nat) : SmF := ⟨sm22, fun x => N.spec_DepotNew n x.1 x.2.1 x.2.2.1 x.2.2.2⟩
def env22 (n : Nat) : List (FuncId × SmF) := [(78, s78 n), (99, s99 n), (100, s100 n), (101, s101 n), (102, s102 n), (103, s103 n), (104, s104 n)]
theorem ev22 (n : Nat) (x : sm22.ins.D) : evFn (find tbl) (find (env22 n)) an22 n Try.f22 sm22 x = N.spec_DepotNew n x.1 x.2.1 x.2.2.1 x.2.2.2 := by kernel_rfl
theorem ok22 (n : Nat) : FnOk Try.prog TT 22 (s22 n) := fn_native (an := an22) (n := n) Try.func22 rfl (by kernel_rfl) tblOk (env_cons (ok78 n) body78 (env_cons (ok99 n) body99 (env_cons (ok100 n) body100 (env_cons (ok101 n) body101 (env_cons (ok102 n) body102 (env_cons (ok103 n) body103 (env_cons (ok104 n) body104 env_nil))))))) follows (ev22 n)
theorem body22 : HasBody Try.prog 22 := ⟨_, _, Try.func22, rfl, by kernel_rfl⟩

-- impl_in
def sm147 : Sm := ⟨[.val false [I], .val false [I], .val false [I]], [(false, [(.bool, 0)])]⟩
def an147 : An := ⟨fun _ => none,
  fun _ => none,
  fun _ => none⟩
def s147 (n : Nat) : SmF := ⟨sm147, fun x => N.impl_in x.1 x.2.1 x.2.2⟩
def env147 (n : Nat) : List (FuncId × SmF) := []
theorem ev147 (n : Nat) (x : sm147.ins.D) : evFn (find tbl) (find (env147 n)) an147 n Try.f147 sm147 x = N.impl_in x.1 x.2.1 x.2.2 := by kernel_rfl
theorem ok147 (n : Nat) : FnOk Try.prog TT 147 (s147 n) := fn_native (an := an147) (n := n) Try.func147 rfl (by kernel_rfl) tblOk env_nil follows (ev147 n)
theorem body147 : HasBody Try.prog 147 := ⟨_, _, Try.func147, rfl, by kernel_rfl⟩

-- impl_FloorOk
def sm106 : Sm := ⟨[.val true [I, I, (.sl 3 (.one I))]], [(false, [(.bool, 0)])]⟩
def an106 : An := ⟨fun _ => none,
  fun b => match b with
    | 0 => some ([.slot 29 I], true)
    | _ => none,
  fun _ => none⟩
def s106 (n : Nat) : SmF := ⟨sm106, fun x => N.impl_FloorOk n x.1 x.2.1 x.2.2⟩
def env106 (n : Nat) : List (FuncId × SmF) := [(147, s147 n)]
theorem ev106 (n : Nat) (x : sm106.ins.D) : evFn (find tbl) (find (env106 n)) an106 n Try.f106 sm106 x = N.impl_FloorOk n x.1 x.2.1 x.2.2 := by kernel_rfl
theorem ok106 (n : Nat) : FnOk Try.prog TT 106 (s106 n) := fn_native (an := an106) (n := n) Try.func106 rfl (by kernel_rfl) tblOk (env_cons (ok147 n) body147 env_nil) follows (ev106 n)
theorem body106 : HasBody Try.prog 106 := ⟨_, _, Try.func106, rfl, by kernel_rfl⟩

-- impl_podOk
def sm157 : Sm := ⟨[.val true [I, I, (.sl 144 k3)]], [(false, [(.bool, 0)])]⟩
def an157 : An := ⟨fun _ => none,
  fun b => match b with
    | 0 => some ([.slot 24 I], true)
    | _ => none,
  fun _ => none⟩
def s157 (n : Nat) : SmF := ⟨sm157, fun x => N.impl_podOk n x.1 x.2.1 x.2.2⟩
def env157 (n : Nat) : List (FuncId × SmF) := [(147, s147 n)]
theorem ev157 (n : Nat) (x : sm157.ins.D) : evFn (find tbl) (find (env157 n)) an157 n Try.f157 sm157 x = N.impl_podOk n x.1 x.2.1 x.2.2 := by kernel_rfl
theorem ok157 (n : Nat) : FnOk Try.prog TT 157 (s157 n) := fn_native (an := an157) (n := n) Try.func157 rfl (by kernel_rfl) tblOk (env_cons (ok147 n) body147 env_nil) follows (ev157 n)
theorem body157 : HasBody Try.prog 157 := ⟨_, _, Try.func157, rfl, by kernel_rfl⟩

-- impl_StockOk
def sm66 : Sm := ⟨[.val true [(.sl 142 k9)]], [(false, [(.bool, 0)])]⟩
def an66 : An := ⟨fun _ => none,
  fun b => match b with
    | 0 => some ([.slot 10 I], true)
    | 2 => some ([.slot 39 I], true)
    | _ => none,
  fun _ => none⟩
def s66 (n : Nat) : SmF := ⟨sm66, fun x => N.impl_StockOk n x⟩
def env66 (n : Nat) : List (FuncId × SmF) := [(157, s157 n)]
theorem ev66 (n : Nat) (x : sm66.ins.D) : evFn (find tbl) (find (env66 n)) an66 n Try.f66 sm66 x = N.impl_StockOk n x := by kernel_rfl
theorem ok66 (n : Nat) : FnOk Try.prog TT 66 (s66 n) := fn_native (an := an66) (n := n) Try.func66 rfl (by kernel_rfl) tblOk (env_cons (ok157 n) body157 env_nil) follows (ev66 n)
theorem body66 : HasBody Try.prog 66 := ⟨_, _, Try.func66, rfl, by kernel_rfl⟩

-- impl_anyHeld
def sm107 : Sm := ⟨[.val true [(.sl 142 k9)]], [(false, [(.bool, 0)])]⟩
def an107 : An := ⟨fun _ => none,
  fun b => match b with
    | 0 => some ([.slot 10 I], true)
    | 2 => some ([.slot 17 I], true)
    | _ => none,
  fun _ => none⟩
def s107 (n : Nat) : SmF := ⟨sm107, fun x => N.impl_anyHeld n x⟩
def env107 (n : Nat) : List (FuncId × SmF) := []
theorem ev107 (n : Nat) (x : sm107.ins.D) : evFn (find tbl) (find (env107 n)) an107 n Try.f107 sm107 x = N.impl_anyHeld n x := by kernel_rfl
theorem ok107 (n : Nat) : FnOk Try.prog TT 107 (s107 n) := fn_native (an := an107) (n := n) Try.func107 rfl (by kernel_rfl) tblOk env_nil follows (ev107 n)
theorem body107 : HasBody Try.prog 107 := ⟨_, _, Try.func107, rfl, by kernel_rfl⟩

-- impl_isCell
def sm182 : Sm := ⟨[.val true [I, I, (.sl 3 (.one I))], .val false [I]], [(false, [(.bool, 0)])]⟩
def an182 : An := ⟨fun _ => none,
  fun _ => none,
  fun _ => none⟩
def s182 (n : Nat) : SmF := ⟨sm182, fun x => N.impl_isCell x.1 x.2.1 x.2.2.1 x.2.2.2⟩
def env182 (n : Nat) : List (FuncId × SmF) := [(147, s147 n)]
theorem ev182 (n : Nat) (x : sm182.ins.D) : evFn (find tbl) (find (env182 n)) an182 n Try.f182 sm182 x = N.impl_isCell x.1 x.2.1 x.2.2.1 x.2.2.2 := by kernel_rfl
theorem ok182 (n : Nat) : FnOk Try.prog TT 182 (s182 n) := fn_native (an := an182) (n := n) Try.func182 rfl (by kernel_rfl) tblOk (env_cons (ok147 n) body147 env_nil) follows (ev182 n)
theorem body182 : HasBody Try.prog 182 := ⟨_, _, Try.func182, rfl, by kernel_rfl⟩

-- impl_KindAt
def sm108 : Sm := ⟨[.val true [I, I, (.sl 3 (.one I))], .val false [I]], [(false, [(I, 0)])]⟩
def an108 : An := ⟨fun _ => none,
  fun _ => none,
  fun _ => none⟩
def s108 (n : Nat) : SmF := ⟨sm108, fun x => N.impl_KindAt n x.1 x.2.1 x.2.2.1 x.2.2.2⟩
def env108 (n : Nat) : List (FuncId × SmF) := [(106, s106 n), (182, s182 n)]
theorem ev108 (n : Nat) (x : sm108.ins.D) : evFn (find tbl) (find (env108 n)) an108 n Try.f108 sm108 x = N.impl_KindAt n x.1 x.2.1 x.2.2.1 x.2.2.2 := by kernel_rfl
theorem ok108 (n : Nat) : FnOk Try.prog TT 108 (s108 n) := fn_native (an := an108) (n := n) Try.func108 rfl (by kernel_rfl) tblOk (env_cons (ok106 n) body106 (env_cons (ok182 n) body182 env_nil)) follows (ev108 n)
theorem body108 : HasBody Try.prog 108 := ⟨_, _, Try.func108, rfl, by kernel_rfl⟩

-- impl_copyInts
def sm177 : Sm := ⟨[.val false [(.sl 3 (.one I))]], [(false, [((.sl 3 (.one I)), 2)])]⟩
def an177 : An := ⟨fun _ => none,
  fun _ => none,
  fun _ => none⟩
def s177 (n : Nat) : SmF := ⟨sm177, fun x => N.impl_copyInts x⟩
def env177 (n : Nat) : List (FuncId × SmF) := []
theorem ev177 (n : Nat) (x : sm177.ins.D) : evFn (find tbl) (find (env177 n)) an177 n Try.f177 sm177 x = N.impl_copyInts x := by kernel_rfl
theorem ok177 (n : Nat) : FnOk Try.prog TT 177 (s177 n) := fn_native (an := an177) (n := n) Try.func177 rfl (by kernel_rfl) tblOk env_nil follows (ev177 n)
theorem body177 : HasBody Try.prog 177 := ⟨_, _, Try.func177, rfl, by kernel_rfl⟩

-- impl_copyFloor
def sm109 : Sm := ⟨[.val true [I, I, (.sl 3 (.one I))]], [(true, [(I, 0), (I, 0), ((.sl 3 (.one I)), 2)])]⟩
def an109 : An := ⟨fun _ => none,
  fun _ => none,
  fun _ => none⟩
def s109 (n : Nat) : SmF := ⟨sm109, fun x => N.impl_copyFloor x.1 x.2.1 x.2.2⟩
def env109 (n : Nat) : List (FuncId × SmF) := [(177, s177 n)]
theorem ev109 (n : Nat) (x : sm109.ins.D) : evFn (find tbl) (find (env109 n)) an109 n Try.f109 sm109 x = N.impl_copyFloor x.1 x.2.1 x.2.2 := by kernel_rfl
theorem ok109 (n : Nat) : FnOk Try.prog TT 109 (s109 n) := fn_native (an := an109) (n := n) Try.func109 rfl (by kernel_rfl) tblOk (env_cons (ok177 n) body177 env_nil) follows (ev109 n)
theorem body109 : HasBody Try.prog 109 := ⟨_, _, Try.func109, rfl, by kernel_rfl⟩

-- impl_copyStock
def sm110 : Sm := ⟨[.val true [(.sl 142 k9)]], [(true, [((.sl 142 k9), 2)])]⟩
def an110 : An := ⟨fun _ => none,
  fun b => match b with
    | 0 => some ([.slot 9 I, .box 3 [some ((.sl 142 k9), 2)]], false)
    | _ => none,
  fun _ => none⟩
def s110 (n : Nat) : SmF := ⟨sm110, fun x => N.impl_copyStock n x⟩
def env110 (n : Nat) : List (FuncId × SmF) := []
theorem ev110 (n : Nat) (x : sm110.ins.D) : evFn (find tbl) (find (env110 n)) an110 n Try.f110 sm110 x = N.impl_copyStock n x := by kernel_rfl
theorem ok110 (n : Nat) : FnOk Try.prog TT 110 (s110 n) := fn_native (an := an110) (n := n) Try.func110 rfl (by kernel_rfl) tblOk env_nil follows (ev110 n)
theorem body110 : HasBody Try.prog 110 := ⟨_, _, Try.func110, rfl, by kernel_rfl⟩

-- impl_CellsOf
def sm68 : Sm := ⟨[.val true [I, I, (.sl 3 (.one I))], .val false [I]], [(false, [((.sl 3 (.one I)), 2)])]⟩
def an68 : An := ⟨fun _ => none,
  fun b => match b with
    | 0 => some ([.own 5 3 (.one I) 2 false, .slot 15 I], false)
    | _ => none,
  fun b => match b with
    | 7 => some ([.own 5 3 (.one I) 2 false], false)
    | _ => none⟩
def s68 (n : Nat) : SmF := ⟨sm68, fun x => N.impl_CellsOf n x.1 x.2.1 x.2.2.1 x.2.2.2⟩
def env68 (n : Nat) : List (FuncId × SmF) := [(106, s106 n)]
theorem ev68 (n : Nat) (x : sm68.ins.D) : evFn (find tbl) (find (env68 n)) an68 n Try.f68 sm68 x = N.impl_CellsOf n x.1 x.2.1 x.2.2.1 x.2.2.2 := by kernel_rfl
theorem ok68 (n : Nat) : FnOk Try.prog TT 68 (s68 n) := fn_native (an := an68) (n := n) Try.func68 rfl (by kernel_rfl) tblOk (env_cons (ok106 n) body106 env_nil) follows (ev68 n)
theorem body68 : HasBody Try.prog 68 := ⟨_, _, Try.func68, rfl, by kernel_rfl⟩

-- impl_stackAt
def sm183 : Sm := ⟨[.val true [I, I, (.sl 144 k3)], .val false [I]], [(false, [(I, 0)]), (false, [(.bool, 0)])]⟩
def an183 : An := ⟨fun b => match b with
    | 4 => some [.slot 4 I, .slot 5 .bool]
    | _ => none,
  fun b => match b with
    | 0 => some ([.slot 6 I], false)
    | _ => none,
  fun _ => none⟩
def s183 (n : Nat) : SmF := ⟨sm183, fun x => N.impl_stackAt n x.1 x.2.1 x.2.2.1 x.2.2.2⟩
def env183 (n : Nat) : List (FuncId × SmF) := []
theorem ev183 (n : Nat) (x : sm183.ins.D) : evFn (find tbl) (find (env183 n)) an183 n Try.f183 sm183 x = N.impl_stackAt n x.1 x.2.1 x.2.2.1 x.2.2.2 := by kernel_rfl
theorem ok183 (n : Nat) : FnOk Try.prog TT 183 (s183 n) := fn_native (an := an183) (n := n) Try.func183 rfl (by kernel_rfl) tblOk env_nil follows (ev183 n)
theorem body183 : HasBody Try.prog 183 := ⟨_, _, Try.func183, rfl, by kernel_rfl⟩

-- impl_Count
def sm111 : Sm := ⟨[.val true [(.sl 142 k9)], .val false [I]], [(false, [(I, 0)])]⟩
def an111 : An := ⟨fun _ => none,
  fun b => match b with
    | 0 => some ([.slot 5 I, .slot 17 I], false)
    | _ => none,
  fun b => match b with
    | 7 => some ([.slot 5 I], false)
    | _ => none⟩
def s111 (n : Nat) : SmF := ⟨sm111, fun x => N.impl_Count n x.1 x.2⟩
def env111 (n : Nat) : List (FuncId × SmF) := [(66, s66 n), (183, s183 n)]
theorem ev111 (n : Nat) (x : sm111.ins.D) : evFn (find tbl) (find (env111 n)) an111 n Try.f111 sm111 x = N.impl_Count n x.1 x.2 := by kernel_rfl
theorem ok111 (n : Nat) : FnOk Try.prog TT 111 (s111 n) := fn_native (an := an111) (n := n) Try.func111 rfl (by kernel_rfl) tblOk (env_cons (ok66 n) body66 (env_cons (ok183 n) body183 env_nil)) follows (ev111 n)
theorem body111 : HasBody Try.prog 111 := ⟨_, _, Try.func111, rfl, by kernel_rfl⟩

-- impl_DepotNew
def sm25 : Sm := ⟨[.val true [I, I, (.sl 3 (.one I))], .val true [(.sl 142 k9)]], [(true, [(I, 0), (I, 0), ((.sl 3 (.one I)), 2), ((.sl 142 k9), 2), (I, 0), ((.sl 90 k12), 2), ((.sl 118 k7), 2), ((.sl 95 k6), 2), ((.sl 3 (.one I)), 2), ((.sl 3 (.one I)), 2), (I, 0)]), (false, [(.bool, 0)])]⟩
def an25 : An := ⟨fun _ => none,
  fun b => match b with
    | 0 => some ([.slot 28 I, .box 4 [some (I, 0), some (I, 0), some ((.sl 3 (.one I)), 2), some ((.sl 142 k9), 2), some (I, 0), some ((.sl 90 k12), 2), some ((.sl 118 k7), 2), some ((.sl 95 k6), 2), some ((.sl 3 (.one I)), 2), some ((.sl 3 (.one I)), 2), some (I, 0)]], true)
    | 2 => some ([.slot 50 I, .box 8 [some (I, 0), some (I, 0), some ((.sl 3 (.one I)), 2), some ((.sl 142 k9), 2), some (I, 0), some ((.sl 90 k12), 2), some ((.sl 118 k7), 2), some ((.sl 95 k6), 2), some ((.sl 3 (.one I)), 2), some ((.sl 3 (.one I)), 2), some (I, 0)]], false)
    | 4 => some ([.slot 11 I, .box 8 [some (I, 0), some (I, 0), some ((.sl 3 (.one I)), 2), some ((.sl 142 k9), 2), some (I, 0), some ((.sl 90 k12), 2), some ((.sl 118 k7), 2), some ((.sl 95 k6), 2), some ((.sl 3 (.one I)), 2), some ((.sl 3 (.one I)), 2), some (I, 0)]], false)
    | _ => none,
  fun b => match b with
    | 13 => some ([.box 8 [some (I, 0), some (I, 0), some ((.sl 3 (.one I)), 2), some ((.sl 142 k9), 2), some (I, 0), some ((.sl 90 k12), 2), some ((.sl 118 k7), 2), some ((.sl 95 k6), 2), some ((.sl 3 (.one I)), 2), some ((.sl 3 (.one I)), 2), some (I, 0)]], false)
    | _ => none⟩
def s25 (n : Nat) : SmF := ⟨sm25, fun x => N.impl_DepotNew n x.1 x.2.1 x.2.2.1 x.2.2.2⟩
def env25 (n : Nat) : List (FuncId × SmF) := [(66, s66 n), (68, s68 n), (106, s106 n), (107, s107 n), (108, s108 n), (109, s109 n), (110, s110 n), (111, s111 n)]
theorem ev25 (n : Nat) (x : sm25.ins.D) : evFn (find tbl) (find (env25 n)) an25 n Try.f25 sm25 x = N.impl_DepotNew n x.1 x.2.1 x.2.2.1 x.2.2.2 := by kernel_rfl
theorem ok25 (n : Nat) : FnOk Try.prog TT 25 (s25 n) := fn_native (an := an25) (n := n) Try.func25 rfl (by kernel_rfl) tblOk (env_cons (ok66 n) body66 (env_cons (ok68 n) body68 (env_cons (ok106 n) body106 (env_cons (ok107 n) body107 (env_cons (ok108 n) body108 (env_cons (ok109 n) body109 (env_cons (ok110 n) body110 (env_cons (ok111 n) body111 env_nil)))))))) follows (ev25 n)
theorem body25 : HasBody Try.prog 25 := ⟨_, _, Try.func25, rfl, by kernel_rfl⟩

-- laws_eqIntS
def sm92 : Sm := ⟨[.val false [(.sl 3 (.one I))], .val false [(.sl 3 (.one I))]], [(false, [(.bool, 0)])]⟩
def an92 : An := ⟨fun _ => none,
  fun b => match b with
    | 0 => some ([.slot 5 I], true)
    | _ => none,
  fun _ => none⟩
def s92 (n : Nat) : SmF := ⟨sm92, fun x => N.laws_eqIntS n x.1 x.2⟩
def env92 (n : Nat) : List (FuncId × SmF) := []
theorem ev92 (n : Nat) (x : sm92.ins.D) : evFn (find tbl) (find (env92 n)) an92 n Try.f92 sm92 x = N.laws_eqIntS n x.1 x.2 := by kernel_rfl
theorem ok92 (n : Nat) : FnOk Try.prog TT 92 (s92 n) := fn_native (an := an92) (n := n) Try.func92 rfl (by kernel_rfl) tblOk env_nil follows (ev92 n)
theorem body92 : HasBody Try.prog 92 := ⟨_, _, Try.func92, rfl, by kernel_rfl⟩

-- laws_eqFloor
def sm27 : Sm := ⟨[.val true [I, I, (.sl 3 (.one I))], .val true [I, I, (.sl 3 (.one I))]], [(false, [(.bool, 0)])]⟩
def an27 : An := ⟨fun _ => none,
  fun _ => none,
  fun _ => none⟩
def s27 (n : Nat) : SmF := ⟨sm27, fun x => N.laws_eqFloor n x.1 x.2.1 x.2.2.1 x.2.2.2.1 x.2.2.2.2.1 x.2.2.2.2.2⟩
def env27 (n : Nat) : List (FuncId × SmF) := [(92, s92 n)]
theorem ev27 (n : Nat) (x : sm27.ins.D) : evFn (find tbl) (find (env27 n)) an27 n Try.f27 sm27 x = N.laws_eqFloor n x.1 x.2.1 x.2.2.1 x.2.2.2.1 x.2.2.2.2.1 x.2.2.2.2.2 := by kernel_rfl
theorem ok27 (n : Nat) : FnOk Try.prog TT 27 (s27 n) := fn_native (an := an27) (n := n) Try.func27 rfl (by kernel_rfl) tblOk (env_cons (ok92 n) body92 env_nil) follows (ev27 n)
theorem body27 : HasBody Try.prog 27 := ⟨_, _, Try.func27, rfl, by kernel_rfl⟩

-- laws_eqStack
def sm251 : Sm := ⟨[.val true [I, I, I], .val true [I, I, I]], [(false, [(.bool, 0)])]⟩
def an251 : An := ⟨fun _ => none,
  fun _ => none,
  fun _ => none⟩
def s251 (n : Nat) : SmF := ⟨sm251, fun x => N.laws_eqStack x.1 x.2.1 x.2.2.1 x.2.2.2.1 x.2.2.2.2.1 x.2.2.2.2.2⟩
def env251 (n : Nat) : List (FuncId × SmF) := []
theorem ev251 (n : Nat) (x : sm251.ins.D) : evFn (find tbl) (find (env251 n)) an251 n Try.f251 sm251 x = N.laws_eqStack x.1 x.2.1 x.2.2.1 x.2.2.2.1 x.2.2.2.2.1 x.2.2.2.2.2 := by kernel_rfl
theorem ok251 (n : Nat) : FnOk Try.prog TT 251 (s251 n) := fn_native (an := an251) (n := n) Try.func251 rfl (by kernel_rfl) tblOk env_nil follows (ev251 n)
theorem body251 : HasBody Try.prog 251 := ⟨_, _, Try.func251, rfl, by kernel_rfl⟩

-- laws_eqStackS
def sm221 : Sm := ⟨[.val false [(.sl 144 k3)], .val false [(.sl 144 k3)]], [(false, [(.bool, 0)])]⟩
def an221 : An := ⟨fun _ => none,
  fun b => match b with
    | 0 => some ([.slot 5 I], true)
    | _ => none,
  fun _ => none⟩
def s221 (n : Nat) : SmF := ⟨sm221, fun x => N.laws_eqStackS n x.1 x.2⟩
def env221 (n : Nat) : List (FuncId × SmF) := [(251, s251 n)]
theorem ev221 (n : Nat) (x : sm221.ins.D) : evFn (find tbl) (find (env221 n)) an221 n Try.f221 sm221 x = N.laws_eqStackS n x.1 x.2 := by kernel_rfl
theorem ok221 (n : Nat) : FnOk Try.prog TT 221 (s221 n) := fn_native (an := an221) (n := n) Try.func221 rfl (by kernel_rfl) tblOk (env_cons (ok251 n) body251 env_nil) follows (ev221 n)
theorem body221 : HasBody Try.prog 221 := ⟨_, _, Try.func221, rfl, by kernel_rfl⟩

-- laws_eqPod
def sm185 : Sm := ⟨[.val true [I, I, (.sl 144 k3)], .val true [I, I, (.sl 144 k3)]], [(false, [(.bool, 0)])]⟩
def an185 : An := ⟨fun _ => none,
  fun _ => none,
  fun _ => none⟩
def s185 (n : Nat) : SmF := ⟨sm185, fun x => N.laws_eqPod n x.1 x.2.1 x.2.2.1 x.2.2.2.1 x.2.2.2.2.1 x.2.2.2.2.2⟩
def env185 (n : Nat) : List (FuncId × SmF) := [(221, s221 n)]
theorem ev185 (n : Nat) (x : sm185.ins.D) : evFn (find tbl) (find (env185 n)) an185 n Try.f185 sm185 x = N.laws_eqPod n x.1 x.2.1 x.2.2.1 x.2.2.2.1 x.2.2.2.2.1 x.2.2.2.2.2 := by kernel_rfl
theorem ok185 (n : Nat) : FnOk Try.prog TT 185 (s185 n) := fn_native (an := an185) (n := n) Try.func185 rfl (by kernel_rfl) tblOk (env_cons (ok221 n) body221 env_nil) follows (ev185 n)
theorem body185 : HasBody Try.prog 185 := ⟨_, _, Try.func185, rfl, by kernel_rfl⟩

-- laws_eqPodS
def sm113 : Sm := ⟨[.val false [(.sl 142 k9)], .val false [(.sl 142 k9)]], [(false, [(.bool, 0)])]⟩
def an113 : An := ⟨fun _ => none,
  fun b => match b with
    | 0 => some ([.slot 5 I], true)
    | _ => none,
  fun _ => none⟩
def s113 (n : Nat) : SmF := ⟨sm113, fun x => N.laws_eqPodS n x.1 x.2⟩
def env113 (n : Nat) : List (FuncId × SmF) := [(185, s185 n)]
theorem ev113 (n : Nat) (x : sm113.ins.D) : evFn (find tbl) (find (env113 n)) an113 n Try.f113 sm113 x = N.laws_eqPodS n x.1 x.2 := by kernel_rfl
theorem ok113 (n : Nat) : FnOk Try.prog TT 113 (s113 n) := fn_native (an := an113) (n := n) Try.func113 rfl (by kernel_rfl) tblOk (env_cons (ok185 n) body185 env_nil) follows (ev113 n)
theorem body113 : HasBody Try.prog 113 := ⟨_, _, Try.func113, rfl, by kernel_rfl⟩

-- laws_eqStock
def sm28 : Sm := ⟨[.val true [(.sl 142 k9)], .val true [(.sl 142 k9)]], [(false, [(.bool, 0)])]⟩
def an28 : An := ⟨fun _ => none,
  fun _ => none,
  fun _ => none⟩
def s28 (n : Nat) : SmF := ⟨sm28, fun x => N.laws_eqStock n x.1 x.2⟩
def env28 (n : Nat) : List (FuncId × SmF) := [(113, s113 n)]
theorem ev28 (n : Nat) (x : sm28.ins.D) : evFn (find tbl) (find (env28 n)) an28 n Try.f28 sm28 x = N.laws_eqStock n x.1 x.2 := by kernel_rfl
theorem ok28 (n : Nat) : FnOk Try.prog TT 28 (s28 n) := fn_native (an := an28) (n := n) Try.func28 rfl (by kernel_rfl) tblOk (env_cons (ok113 n) body113 env_nil) follows (ev28 n)
theorem body28 : HasBody Try.prog 28 := ⟨_, _, Try.func28, rfl, by kernel_rfl⟩

-- laws_eqItem
def sm269 : Sm := ⟨[.val true [I, I], .val true [I, I]], [(false, [(.bool, 0)])]⟩
def an269 : An := ⟨fun _ => none,
  fun _ => none,
  fun _ => none⟩
def s269 (n : Nat) : SmF := ⟨sm269, fun x => N.laws_eqItem x.1 x.2.1 x.2.2.1 x.2.2.2⟩
def env269 (n : Nat) : List (FuncId × SmF) := []
theorem ev269 (n : Nat) (x : sm269.ins.D) : evFn (find tbl) (find (env269 n)) an269 n Try.f269 sm269 x = N.laws_eqItem x.1 x.2.1 x.2.2.1 x.2.2.2 := by kernel_rfl
theorem ok269 (n : Nat) : FnOk Try.prog TT 269 (s269 n) := fn_native (an := an269) (n := n) Try.func269 rfl (by kernel_rfl) tblOk env_nil follows (ev269 n)
theorem body269 : HasBody Try.prog 269 := ⟨_, _, Try.func269, rfl, by kernel_rfl⟩

-- laws_eqItemS
def sm249 : Sm := ⟨[.val false [(.sl 236 k1)], .val false [(.sl 236 k1)]], [(false, [(.bool, 0)])]⟩
def an249 : An := ⟨fun _ => none,
  fun b => match b with
    | 0 => some ([.slot 5 I], true)
    | _ => none,
  fun _ => none⟩
def s249 (n : Nat) : SmF := ⟨sm249, fun x => N.laws_eqItemS n x.1 x.2⟩
def env249 (n : Nat) : List (FuncId × SmF) := [(269, s269 n)]
theorem ev249 (n : Nat) (x : sm249.ins.D) : evFn (find tbl) (find (env249 n)) an249 n Try.f249 sm249 x = N.laws_eqItemS n x.1 x.2 := by kernel_rfl
theorem ok249 (n : Nat) : FnOk Try.prog TT 249 (s249 n) := fn_native (an := an249) (n := n) Try.func249 rfl (by kernel_rfl) tblOk (env_cons (ok269 n) body269 env_nil) follows (ev249 n)
theorem body249 : HasBody Try.prog 249 := ⟨_, _, Try.func249, rfl, by kernel_rfl⟩

-- laws_eqPick
def sm270 : Sm := ⟨[.val true [I, I, I], .val true [I, I, I]], [(false, [(.bool, 0)])]⟩
def an270 : An := ⟨fun _ => none,
  fun _ => none,
  fun _ => none⟩
def s270 (n : Nat) : SmF := ⟨sm270, fun x => N.laws_eqPick x.1 x.2.1 x.2.2.1 x.2.2.2.1 x.2.2.2.2.1 x.2.2.2.2.2⟩
def env270 (n : Nat) : List (FuncId × SmF) := []
theorem ev270 (n : Nat) (x : sm270.ins.D) : evFn (find tbl) (find (env270 n)) an270 n Try.f270 sm270 x = N.laws_eqPick x.1 x.2.1 x.2.2.1 x.2.2.2.1 x.2.2.2.2.1 x.2.2.2.2.2 := by kernel_rfl
theorem ok270 (n : Nat) : FnOk Try.prog TT 270 (s270 n) := fn_native (an := an270) (n := n) Try.func270 rfl (by kernel_rfl) tblOk env_nil follows (ev270 n)
theorem body270 : HasBody Try.prog 270 := ⟨_, _, Try.func270, rfl, by kernel_rfl⟩

-- laws_eqPickS
def sm250 : Sm := ⟨[.val false [(.sl 97 k3)], .val false [(.sl 97 k3)]], [(false, [(.bool, 0)])]⟩
def an250 : An := ⟨fun _ => none,
  fun b => match b with
    | 0 => some ([.slot 5 I], true)
    | _ => none,
  fun _ => none⟩
def s250 (n : Nat) : SmF := ⟨sm250, fun x => N.laws_eqPickS n x.1 x.2⟩
def env250 (n : Nat) : List (FuncId × SmF) := [(270, s270 n)]
theorem ev250 (n : Nat) (x : sm250.ins.D) : evFn (find tbl) (find (env250 n)) an250 n Try.f250 sm250 x = N.laws_eqPickS n x.1 x.2 := by kernel_rfl
theorem ok250 (n : Nat) : FnOk Try.prog TT 250 (s250 n) := fn_native (an := an250) (n := n) Try.func250 rfl (by kernel_rfl) tblOk (env_cons (ok270 n) body270 env_nil) follows (ev250 n)
theorem body250 : HasBody Try.prog 250 := ⟨_, _, Try.func250, rfl, by kernel_rfl⟩

-- laws_eqOrder
def sm220 : Sm := ⟨[.val true [I, I, (.sl 236 k1), (.sl 97 k3), I], .val true [I, I, (.sl 236 k1), (.sl 97 k3), I]], [(false, [(.bool, 0)])]⟩
def an220 : An := ⟨fun _ => none,
  fun _ => none,
  fun _ => none⟩
def s220 (n : Nat) : SmF := ⟨sm220, fun x => N.laws_eqOrder n x.1 x.2.1 x.2.2.1 x.2.2.2.1 x.2.2.2.2.1 x.2.2.2.2.2.1 x.2.2.2.2.2.2.1 x.2.2.2.2.2.2.2.1 x.2.2.2.2.2.2.2.2.1 x.2.2.2.2.2.2.2.2.2⟩
def env220 (n : Nat) : List (FuncId × SmF) := [(249, s249 n), (250, s250 n)]
theorem ev220 (n : Nat) (x : sm220.ins.D) : evFn (find tbl) (find (env220 n)) an220 n Try.f220 sm220 x = N.laws_eqOrder n x.1 x.2.1 x.2.2.1 x.2.2.2.1 x.2.2.2.2.1 x.2.2.2.2.2.1 x.2.2.2.2.2.2.1 x.2.2.2.2.2.2.2.1 x.2.2.2.2.2.2.2.2.1 x.2.2.2.2.2.2.2.2.2 := by kernel_rfl
theorem ok220 (n : Nat) : FnOk Try.prog TT 220 (s220 n) := fn_native (an := an220) (n := n) Try.func220 rfl (by kernel_rfl) tblOk (env_cons (ok249 n) body249 (env_cons (ok250 n) body250 env_nil)) follows (ev220 n)
theorem body220 : HasBody Try.prog 220 := ⟨_, _, Try.func220, rfl, by kernel_rfl⟩

-- laws_eqOrderS
def sm184 : Sm := ⟨[.val false [(.sl 90 k12)], .val false [(.sl 90 k12)]], [(false, [(.bool, 0)])]⟩
def an184 : An := ⟨fun _ => none,
  fun b => match b with
    | 0 => some ([.slot 5 I], true)
    | _ => none,
  fun _ => none⟩
def s184 (n : Nat) : SmF := ⟨sm184, fun x => N.laws_eqOrderS n x.1 x.2⟩
def env184 (n : Nat) : List (FuncId × SmF) := [(220, s220 n)]
theorem ev184 (n : Nat) (x : sm184.ins.D) : evFn (find tbl) (find (env184 n)) an184 n Try.f184 sm184 x = N.laws_eqOrderS n x.1 x.2 := by kernel_rfl
theorem ok184 (n : Nat) : FnOk Try.prog TT 184 (s184 n) := fn_native (an := an184) (n := n) Try.func184 rfl (by kernel_rfl) tblOk (env_cons (ok220 n) body220 env_nil) follows (ev184 n)
theorem body184 : HasBody Try.prog 184 := ⟨_, _, Try.func184, rfl, by kernel_rfl⟩

-- laws_eqBook
def sm112 : Sm := ⟨[.val true [I, (.sl 90 k12)], .val true [I, (.sl 90 k12)]], [(false, [(.bool, 0)])]⟩
def an112 : An := ⟨fun _ => none,
  fun _ => none,
  fun _ => none⟩
def s112 (n : Nat) : SmF := ⟨sm112, fun x => N.laws_eqBook n x.1 x.2.1 x.2.2.1 x.2.2.2⟩
def env112 (n : Nat) : List (FuncId × SmF) := [(184, s184 n)]
theorem ev112 (n : Nat) (x : sm112.ins.D) : evFn (find tbl) (find (env112 n)) an112 n Try.f112 sm112 x = N.laws_eqBook n x.1 x.2.1 x.2.2.1 x.2.2.2 := by kernel_rfl
theorem ok112 (n : Nat) : FnOk Try.prog TT 112 (s112 n) := fn_native (an := an112) (n := n) Try.func112 rfl (by kernel_rfl) tblOk (env_cons (ok184 n) body184 env_nil) follows (ev112 n)
theorem body112 : HasBody Try.prog 112 := ⟨_, _, Try.func112, rfl, by kernel_rfl⟩

-- laws_eqRobot
def sm124 : Sm := ⟨[.val true [I, I, I, .bool, I], .val true [I, I, I, .bool, I]], [(false, [(.bool, 0)])]⟩
def an124 : An := ⟨fun _ => none,
  fun _ => none,
  fun _ => none⟩
def s124 (n : Nat) : SmF := ⟨sm124, fun x => N.laws_eqRobot x.1 x.2.1 x.2.2.1 x.2.2.2.1 x.2.2.2.2.1 x.2.2.2.2.2.1 x.2.2.2.2.2.2.1 x.2.2.2.2.2.2.2.1 x.2.2.2.2.2.2.2.2.1 x.2.2.2.2.2.2.2.2.2⟩
def env124 (n : Nat) : List (FuncId × SmF) := []
theorem ev124 (n : Nat) (x : sm124.ins.D) : evFn (find tbl) (find (env124 n)) an124 n Try.f124 sm124 x = N.laws_eqRobot x.1 x.2.1 x.2.2.1 x.2.2.2.1 x.2.2.2.2.1 x.2.2.2.2.2.1 x.2.2.2.2.2.2.1 x.2.2.2.2.2.2.2.1 x.2.2.2.2.2.2.2.2.1 x.2.2.2.2.2.2.2.2.2 := by kernel_rfl
theorem ok124 (n : Nat) : FnOk Try.prog TT 124 (s124 n) := fn_native (an := an124) (n := n) Try.func124 rfl (by kernel_rfl) tblOk env_nil follows (ev124 n)
theorem body124 : HasBody Try.prog 124 := ⟨_, _, Try.func124, rfl, by kernel_rfl⟩

-- laws_eqRobotS
def sm37 : Sm := ⟨[.val false [(.sl 118 k7)], .val false [(.sl 118 k7)]], [(false, [(.bool, 0)])]⟩
def an37 : An := ⟨fun _ => none,
  fun b => match b with
    | 0 => some ([.slot 5 I], true)
    | _ => none,
  fun _ => none⟩
def s37 (n : Nat) : SmF := ⟨sm37, fun x => N.laws_eqRobotS n x.1 x.2⟩
def env37 (n : Nat) : List (FuncId × SmF) := [(124, s124 n)]
theorem ev37 (n : Nat) (x : sm37.ins.D) : evFn (find tbl) (find (env37 n)) an37 n Try.f37 sm37 x = N.laws_eqRobotS n x.1 x.2 := by kernel_rfl
theorem ok37 (n : Nat) : FnOk Try.prog TT 37 (s37 n) := fn_native (an := an37) (n := n) Try.func37 rfl (by kernel_rfl) tblOk (env_cons (ok124 n) body124 env_nil) follows (ev37 n)
theorem body37 : HasBody Try.prog 37 := ⟨_, _, Try.func37, rfl, by kernel_rfl⟩

-- laws_eqTask
def sm138 : Sm := ⟨[.val true [I, I, I, I], .val true [I, I, I, I]], [(false, [(.bool, 0)])]⟩
def an138 : An := ⟨fun _ => none,
  fun _ => none,
  fun _ => none⟩
def s138 (n : Nat) : SmF := ⟨sm138, fun x => N.laws_eqTask x.1 x.2.1 x.2.2.1 x.2.2.2.1 x.2.2.2.2.1 x.2.2.2.2.2.1 x.2.2.2.2.2.2.1 x.2.2.2.2.2.2.2⟩
def env138 (n : Nat) : List (FuncId × SmF) := []
theorem ev138 (n : Nat) (x : sm138.ins.D) : evFn (find tbl) (find (env138 n)) an138 n Try.f138 sm138 x = N.laws_eqTask x.1 x.2.1 x.2.2.1 x.2.2.2.1 x.2.2.2.2.1 x.2.2.2.2.2.1 x.2.2.2.2.2.2.1 x.2.2.2.2.2.2.2 := by kernel_rfl
theorem ok138 (n : Nat) : FnOk Try.prog TT 138 (s138 n) := fn_native (an := an138) (n := n) Try.func138 rfl (by kernel_rfl) tblOk env_nil follows (ev138 n)
theorem body138 : HasBody Try.prog 138 := ⟨_, _, Try.func138, rfl, by kernel_rfl⟩

-- laws_eqTaskS
def sm49 : Sm := ⟨[.val false [(.sl 95 k6)], .val false [(.sl 95 k6)]], [(false, [(.bool, 0)])]⟩
def an49 : An := ⟨fun _ => none,
  fun b => match b with
    | 0 => some ([.slot 5 I], true)
    | _ => none,
  fun _ => none⟩
def s49 (n : Nat) : SmF := ⟨sm49, fun x => N.laws_eqTaskS n x.1 x.2⟩
def env49 (n : Nat) : List (FuncId × SmF) := [(138, s138 n)]
theorem ev49 (n : Nat) (x : sm49.ins.D) : evFn (find tbl) (find (env49 n)) an49 n Try.f49 sm49 x = N.laws_eqTaskS n x.1 x.2 := by kernel_rfl
theorem ok49 (n : Nat) : FnOk Try.prog TT 49 (s49 n) := fn_native (an := an49) (n := n) Try.func49 rfl (by kernel_rfl) tblOk (env_cons (ok138 n) body138 env_nil) follows (ev49 n)
theorem body49 : HasBody Try.prog 49 := ⟨_, _, Try.func49, rfl, by kernel_rfl⟩

-- laws_eqDepot
def sm26 : Sm := ⟨[.val true [I, I, (.sl 3 (.one I)), (.sl 142 k9), I, (.sl 90 k12), (.sl 118 k7), (.sl 95 k6), (.sl 3 (.one I)), (.sl 3 (.one I)), I], .val true [I, I, (.sl 3 (.one I)), (.sl 142 k9), I, (.sl 90 k12), (.sl 118 k7), (.sl 95 k6), (.sl 3 (.one I)), (.sl 3 (.one I)), I]], [(false, [(.bool, 0)])]⟩
def an26 : An := ⟨fun _ => none,
  fun _ => none,
  fun _ => none⟩
def s26 (n : Nat) : SmF := ⟨sm26, fun x => N.laws_eqDepot n x.1 x.2.1 x.2.2.1 x.2.2.2.1 x.2.2.2.2.1 x.2.2.2.2.2.1 x.2.2.2.2.2.2.1 x.2.2.2.2.2.2.2.1 x.2.2.2.2.2.2.2.2.1 x.2.2.2.2.2.2.2.2.2.1 x.2.2.2.2.2.2.2.2.2.2.1 x.2.2.2.2.2.2.2.2.2.2.2.1 x.2.2.2.2.2.2.2.2.2.2.2.2.1 x.2.2.2.2.2.2.2.2.2.2.2.2.2.1 x.2.2.2.2.2.2.2.2.2.2.2.2.2.2.1 x.2.2.2.2.2.2.2.2.2.2.2.2.2.2.2.1 x.2.2.2.2.2.2.2.2.2.2.2.2.2.2.2.2.1 x.2.2.2.2.2.2.2.2.2.2.2.2.2.2.2.2.2.1 x.2.2.2.2.2.2.2.2.2.2.2.2.2.2.2.2.2.2.1 x.2.2.2.2.2.2.2.2.2.2.2.2.2.2.2.2.2.2.2.1 x.2.2.2.2.2.2.2.2.2.2.2.2.2.2.2.2.2.2.2.2.1 x.2.2.2.2.2.2.2.2.2.2.2.2.2.2.2.2.2.2.2.2.2⟩
def env26 (n : Nat) : List (FuncId × SmF) := [(27, s27 n), (28, s28 n), (37, s37 n), (49, s49 n), (92, s92 n), (112, s112 n)]
theorem ev26 (n : Nat) (x : sm26.ins.D) : evFn (find tbl) (find (env26 n)) an26 n Try.f26 sm26 x = N.laws_eqDepot n x.1 x.2.1 x.2.2.1 x.2.2.2.1 x.2.2.2.2.1 x.2.2.2.2.2.1 x.2.2.2.2.2.2.1 x.2.2.2.2.2.2.2.1 x.2.2.2.2.2.2.2.2.1 x.2.2.2.2.2.2.2.2.2.1 x.2.2.2.2.2.2.2.2.2.2.1 x.2.2.2.2.2.2.2.2.2.2.2.1 x.2.2.2.2.2.2.2.2.2.2.2.2.1 x.2.2.2.2.2.2.2.2.2.2.2.2.2.1 x.2.2.2.2.2.2.2.2.2.2.2.2.2.2.1 x.2.2.2.2.2.2.2.2.2.2.2.2.2.2.2.1 x.2.2.2.2.2.2.2.2.2.2.2.2.2.2.2.2.1 x.2.2.2.2.2.2.2.2.2.2.2.2.2.2.2.2.2.1 x.2.2.2.2.2.2.2.2.2.2.2.2.2.2.2.2.2.2.1 x.2.2.2.2.2.2.2.2.2.2.2.2.2.2.2.2.2.2.2.1 x.2.2.2.2.2.2.2.2.2.2.2.2.2.2.2.2.2.2.2.2.1 x.2.2.2.2.2.2.2.2.2.2.2.2.2.2.2.2.2.2.2.2.2 := by kernel_rfl
theorem ok26 (n : Nat) : FnOk Try.prog TT 26 (s26 n) := fn_native (an := an26) (n := n) Try.func26 rfl (by kernel_rfl) tblOk (env_cons (ok27 n) body27 (env_cons (ok28 n) body28 (env_cons (ok37 n) body37 (env_cons (ok49 n) body49 (env_cons (ok92 n) body92 (env_cons (ok112 n) body112 env_nil)))))) follows (ev26 n)
theorem body26 : HasBody Try.prog 26 := ⟨_, _, Try.func26, rfl, by kernel_rfl⟩

-- laws_markIntS
def sm94 : Sm := ⟨[.row false [((.sl 3 (.one I)), 2)], .val false [I]], [(false, [(I, 0)])]⟩
def an94 : An := ⟨fun _ => none,
  fun b => match b with
    | 0 => some ([.slot 1 I, .slot 5 I, .own 0 3 (.one I) 2 true], false)
    | _ => none,
  fun _ => none⟩
def s94 (n : Nat) : SmF := ⟨sm94, fun x => N.laws_markIntS n x.1 x.2⟩
def env94 (n : Nat) : List (FuncId × SmF) := []
theorem ev94 (n : Nat) (x : sm94.ins.D) : evFn (find tbl) (find (env94 n)) an94 n Try.f94 sm94 x = N.laws_markIntS n x.1 x.2 := by kernel_rfl
theorem ok94 (n : Nat) : FnOk Try.prog TT 94 (s94 n) := fn_native (an := an94) (n := n) Try.func94 rfl (by kernel_rfl) tblOk env_nil follows (ev94 n)
theorem body94 : HasBody Try.prog 94 := ⟨_, _, Try.func94, rfl, by kernel_rfl⟩

-- laws_markFloor
def sm29 : Sm := ⟨[.row true [(I, 0), (I, 0), ((.sl 3 (.one I)), 2)], .val false [I]], [(false, [(I, 0)])]⟩
def an29 : An := ⟨fun _ => none,
  fun _ => none,
  fun _ => none⟩
def s29 (n : Nat) : SmF := ⟨sm29, fun x => N.laws_markFloor n x.1 x.2.1 x.2.2.1 x.2.2.2⟩
def env29 (n : Nat) : List (FuncId × SmF) := [(94, s94 n)]
theorem ev29 (n : Nat) (x : sm29.ins.D) : evFn (find tbl) (find (env29 n)) an29 n Try.f29 sm29 x = N.laws_markFloor n x.1 x.2.1 x.2.2.1 x.2.2.2 := by kernel_rfl
theorem ok29 (n : Nat) : FnOk Try.prog TT 29 (s29 n) := fn_native (an := an29) (n := n) Try.func29 rfl (by kernel_rfl) tblOk (env_cons (ok94 n) body94 env_nil) follows (ev29 n)
theorem body29 : HasBody Try.prog 29 := ⟨_, _, Try.func29, rfl, by kernel_rfl⟩

-- laws_markStackS
def sm186 : Sm := ⟨[.row false [((.sl 144 k3), 2)], .val false [I]], [(false, [(I, 0)])]⟩
def an186 : An := ⟨fun _ => none,
  fun b => match b with
    | 0 => some ([.slot 1 I, .slot 5 I, .own 0 144 k3 2 true], false)
    | _ => none,
  fun _ => none⟩
def s186 (n : Nat) : SmF := ⟨sm186, fun x => N.laws_markStackS n x.1 x.2⟩
def env186 (n : Nat) : List (FuncId × SmF) := []
theorem ev186 (n : Nat) (x : sm186.ins.D) : evFn (find tbl) (find (env186 n)) an186 n Try.f186 sm186 x = N.laws_markStackS n x.1 x.2 := by kernel_rfl
theorem ok186 (n : Nat) : FnOk Try.prog TT 186 (s186 n) := fn_native (an := an186) (n := n) Try.func186 rfl (by kernel_rfl) tblOk env_nil follows (ev186 n)
theorem body186 : HasBody Try.prog 186 := ⟨_, _, Try.func186, rfl, by kernel_rfl⟩

-- laws_markPodS
def sm114 : Sm := ⟨[.row false [((.sl 142 k9), 2)], .val false [I]], [(false, [(I, 0)])]⟩
def an114 : An := ⟨fun _ => none,
  fun b => match b with
    | 0 => some ([.slot 1 I, .slot 5 I, .own 0 142 k9 2 true], false)
    | _ => none,
  fun _ => none⟩
def s114 (n : Nat) : SmF := ⟨sm114, fun x => N.laws_markPodS n x.1 x.2⟩
def env114 (n : Nat) : List (FuncId × SmF) := [(186, s186 n)]
theorem ev114 (n : Nat) (x : sm114.ins.D) : evFn (find tbl) (find (env114 n)) an114 n Try.f114 sm114 x = N.laws_markPodS n x.1 x.2 := by kernel_rfl
theorem ok114 (n : Nat) : FnOk Try.prog TT 114 (s114 n) := fn_native (an := an114) (n := n) Try.func114 rfl (by kernel_rfl) tblOk (env_cons (ok186 n) body186 env_nil) follows (ev114 n)
theorem body114 : HasBody Try.prog 114 := ⟨_, _, Try.func114, rfl, by kernel_rfl⟩

-- laws_markStock
def sm30 : Sm := ⟨[.row true [((.sl 142 k9), 2)], .val false [I]], [(false, [(I, 0)])]⟩
def an30 : An := ⟨fun _ => none,
  fun _ => none,
  fun _ => none⟩
def s30 (n : Nat) : SmF := ⟨sm30, fun x => N.laws_markStock n x.1 x.2⟩
def env30 (n : Nat) : List (FuncId × SmF) := [(114, s114 n)]
theorem ev30 (n : Nat) (x : sm30.ins.D) : evFn (find tbl) (find (env30 n)) an30 n Try.f30 sm30 x = N.laws_markStock n x.1 x.2 := by kernel_rfl
theorem ok30 (n : Nat) : FnOk Try.prog TT 30 (s30 n) := fn_native (an := an30) (n := n) Try.func30 rfl (by kernel_rfl) tblOk (env_cons (ok114 n) body114 env_nil) follows (ev30 n)
theorem body30 : HasBody Try.prog 30 := ⟨_, _, Try.func30, rfl, by kernel_rfl⟩

-- laws_markItemS
def sm222 : Sm := ⟨[.row false [((.sl 236 k1), 2)], .val false [I]], [(false, [(I, 0)])]⟩
def an222 : An := ⟨fun _ => none,
  fun b => match b with
    | 0 => some ([.slot 1 I, .slot 5 I, .own 0 236 k1 2 true], false)
    | _ => none,
  fun _ => none⟩
def s222 (n : Nat) : SmF := ⟨sm222, fun x => N.laws_markItemS n x.1 x.2⟩
def env222 (n : Nat) : List (FuncId × SmF) := []
theorem ev222 (n : Nat) (x : sm222.ins.D) : evFn (find tbl) (find (env222 n)) an222 n Try.f222 sm222 x = N.laws_markItemS n x.1 x.2 := by kernel_rfl
theorem ok222 (n : Nat) : FnOk Try.prog TT 222 (s222 n) := fn_native (an := an222) (n := n) Try.func222 rfl (by kernel_rfl) tblOk env_nil follows (ev222 n)
theorem body222 : HasBody Try.prog 222 := ⟨_, _, Try.func222, rfl, by kernel_rfl⟩

-- laws_markPickS
def sm223 : Sm := ⟨[.row false [((.sl 97 k3), 2)], .val false [I]], [(false, [(I, 0)])]⟩
def an223 : An := ⟨fun _ => none,
  fun b => match b with
    | 0 => some ([.slot 1 I, .slot 5 I, .own 0 97 k3 2 true], false)
    | _ => none,
  fun _ => none⟩
def s223 (n : Nat) : SmF := ⟨sm223, fun x => N.laws_markPickS n x.1 x.2⟩
def env223 (n : Nat) : List (FuncId × SmF) := []
theorem ev223 (n : Nat) (x : sm223.ins.D) : evFn (find tbl) (find (env223 n)) an223 n Try.f223 sm223 x = N.laws_markPickS n x.1 x.2 := by kernel_rfl
theorem ok223 (n : Nat) : FnOk Try.prog TT 223 (s223 n) := fn_native (an := an223) (n := n) Try.func223 rfl (by kernel_rfl) tblOk env_nil follows (ev223 n)
theorem body223 : HasBody Try.prog 223 := ⟨_, _, Try.func223, rfl, by kernel_rfl⟩

-- laws_markOrderS
def sm187 : Sm := ⟨[.row false [((.sl 90 k12), 2)], .val false [I]], [(false, [(I, 0)])]⟩
def an187 : An := ⟨fun _ => none,
  fun b => match b with
    | 0 => some ([.slot 1 I, .slot 5 I, .own 0 90 k12 2 true], false)
    | _ => none,
  fun _ => none⟩
def s187 (n : Nat) : SmF := ⟨sm187, fun x => N.laws_markOrderS n x.1 x.2⟩
def env187 (n : Nat) : List (FuncId × SmF) := [(222, s222 n), (223, s223 n)]
theorem ev187 (n : Nat) (x : sm187.ins.D) : evFn (find tbl) (find (env187 n)) an187 n Try.f187 sm187 x = N.laws_markOrderS n x.1 x.2 := by kernel_rfl
theorem ok187 (n : Nat) : FnOk Try.prog TT 187 (s187 n) := fn_native (an := an187) (n := n) Try.func187 rfl (by kernel_rfl) tblOk (env_cons (ok222 n) body222 (env_cons (ok223 n) body223 env_nil)) follows (ev187 n)
theorem body187 : HasBody Try.prog 187 := ⟨_, _, Try.func187, rfl, by kernel_rfl⟩

-- laws_markBook
def sm115 : Sm := ⟨[.row true [(I, 0), ((.sl 90 k12), 2)], .val false [I]], [(false, [(I, 0)])]⟩
def an115 : An := ⟨fun _ => none,
  fun _ => none,
  fun _ => none⟩
def s115 (n : Nat) : SmF := ⟨sm115, fun x => N.laws_markBook n x.1 x.2.1 x.2.2⟩
def env115 (n : Nat) : List (FuncId × SmF) := [(187, s187 n)]
theorem ev115 (n : Nat) (x : sm115.ins.D) : evFn (find tbl) (find (env115 n)) an115 n Try.f115 sm115 x = N.laws_markBook n x.1 x.2.1 x.2.2 := by kernel_rfl
theorem ok115 (n : Nat) : FnOk Try.prog TT 115 (s115 n) := fn_native (an := an115) (n := n) Try.func115 rfl (by kernel_rfl) tblOk (env_cons (ok187 n) body187 env_nil) follows (ev115 n)
theorem body115 : HasBody Try.prog 115 := ⟨_, _, Try.func115, rfl, by kernel_rfl⟩

-- laws_markRobotS
def sm38 : Sm := ⟨[.row false [((.sl 118 k7), 2)], .val false [I]], [(false, [(I, 0)])]⟩
def an38 : An := ⟨fun _ => none,
  fun b => match b with
    | 0 => some ([.slot 1 I, .slot 5 I, .own 0 118 k7 2 true], false)
    | _ => none,
  fun _ => none⟩
def s38 (n : Nat) : SmF := ⟨sm38, fun x => N.laws_markRobotS n x.1 x.2⟩
def env38 (n : Nat) : List (FuncId × SmF) := []
theorem ev38 (n : Nat) (x : sm38.ins.D) : evFn (find tbl) (find (env38 n)) an38 n Try.f38 sm38 x = N.laws_markRobotS n x.1 x.2 := by kernel_rfl
theorem ok38 (n : Nat) : FnOk Try.prog TT 38 (s38 n) := fn_native (an := an38) (n := n) Try.func38 rfl (by kernel_rfl) tblOk env_nil follows (ev38 n)
theorem body38 : HasBody Try.prog 38 := ⟨_, _, Try.func38, rfl, by kernel_rfl⟩

-- laws_markTaskS
def sm50 : Sm := ⟨[.row false [((.sl 95 k6), 2)], .val false [I]], [(false, [(I, 0)])]⟩
def an50 : An := ⟨fun _ => none,
  fun b => match b with
    | 0 => some ([.slot 1 I, .slot 5 I, .own 0 95 k6 2 true], false)
    | _ => none,
  fun _ => none⟩
def s50 (n : Nat) : SmF := ⟨sm50, fun x => N.laws_markTaskS n x.1 x.2⟩
def env50 (n : Nat) : List (FuncId × SmF) := []
theorem ev50 (n : Nat) (x : sm50.ins.D) : evFn (find tbl) (find (env50 n)) an50 n Try.f50 sm50 x = N.laws_markTaskS n x.1 x.2 := by kernel_rfl
theorem ok50 (n : Nat) : FnOk Try.prog TT 50 (s50 n) := fn_native (an := an50) (n := n) Try.func50 rfl (by kernel_rfl) tblOk env_nil follows (ev50 n)
theorem body50 : HasBody Try.prog 50 := ⟨_, _, Try.func50, rfl, by kernel_rfl⟩

-- laws_markDepot
def sm31 : Sm := ⟨[.row true [(I, 0), (I, 0), ((.sl 3 (.one I)), 2), ((.sl 142 k9), 2), (I, 0), ((.sl 90 k12), 2), ((.sl 118 k7), 2), ((.sl 95 k6), 2), ((.sl 3 (.one I)), 2), ((.sl 3 (.one I)), 2), (I, 0)], .val false [I]], [(false, [(I, 0)])]⟩
def an31 : An := ⟨fun _ => none,
  fun _ => none,
  fun _ => none⟩
def s31 (n : Nat) : SmF := ⟨sm31, fun x => N.laws_markDepot n x.1 x.2.1 x.2.2.1 x.2.2.2.1 x.2.2.2.2.1 x.2.2.2.2.2.1 x.2.2.2.2.2.2.1 x.2.2.2.2.2.2.2.1 x.2.2.2.2.2.2.2.2.1 x.2.2.2.2.2.2.2.2.2.1 x.2.2.2.2.2.2.2.2.2.2.1 x.2.2.2.2.2.2.2.2.2.2.2⟩
def env31 (n : Nat) : List (FuncId × SmF) := [(29, s29 n), (30, s30 n), (38, s38 n), (50, s50 n), (94, s94 n), (115, s115 n)]
theorem ev31 (n : Nat) (x : sm31.ins.D) : evFn (find tbl) (find (env31 n)) an31 n Try.f31 sm31 x = N.laws_markDepot n x.1 x.2.1 x.2.2.1 x.2.2.2.1 x.2.2.2.2.1 x.2.2.2.2.2.1 x.2.2.2.2.2.2.1 x.2.2.2.2.2.2.2.1 x.2.2.2.2.2.2.2.2.1 x.2.2.2.2.2.2.2.2.2.1 x.2.2.2.2.2.2.2.2.2.2.1 x.2.2.2.2.2.2.2.2.2.2.2 := by kernel_rfl
theorem ok31 (n : Nat) : FnOk Try.prog TT 31 (s31 n) := fn_native (an := an31) (n := n) Try.func31 rfl (by kernel_rfl) tblOk (env_cons (ok29 n) body29 (env_cons (ok30 n) body30 (env_cons (ok38 n) body38 (env_cons (ok50 n) body50 (env_cons (ok94 n) body94 (env_cons (ok115 n) body115 env_nil)))))) follows (ev31 n)
theorem body31 : HasBody Try.prog 31 := ⟨_, _, Try.func31, rfl, by kernel_rfl⟩

-- laws_heldIntS
def sm96 : Sm := ⟨[.val false [(.sl 3 (.one I))], .val false [I]], [(false, [(I, 0)])]⟩
def an96 : An := ⟨fun _ => none,
  fun b => match b with
    | 0 => some ([.slot 1 I, .slot 5 I], true)
    | _ => none,
  fun _ => none⟩
def s96 (n : Nat) : SmF := ⟨sm96, fun x => N.laws_heldIntS n x.1 x.2⟩
def env96 (n : Nat) : List (FuncId × SmF) := []
theorem ev96 (n : Nat) (x : sm96.ins.D) : evFn (find tbl) (find (env96 n)) an96 n Try.f96 sm96 x = N.laws_heldIntS n x.1 x.2 := by kernel_rfl
theorem ok96 (n : Nat) : FnOk Try.prog TT 96 (s96 n) := fn_native (an := an96) (n := n) Try.func96 rfl (by kernel_rfl) tblOk env_nil follows (ev96 n)
theorem body96 : HasBody Try.prog 96 := ⟨_, _, Try.func96, rfl, by kernel_rfl⟩

-- laws_heldFloor
def sm116 : Sm := ⟨[.val true [I, I, (.sl 3 (.one I))], .val false [I]], [(false, [(I, 0)])]⟩
def an116 : An := ⟨fun _ => none,
  fun _ => none,
  fun _ => none⟩
def s116 (n : Nat) : SmF := ⟨sm116, fun x => N.laws_heldFloor n x.1 x.2.1 x.2.2.1 x.2.2.2⟩
def env116 (n : Nat) : List (FuncId × SmF) := [(96, s96 n)]
theorem ev116 (n : Nat) (x : sm116.ins.D) : evFn (find tbl) (find (env116 n)) an116 n Try.f116 sm116 x = N.laws_heldFloor n x.1 x.2.1 x.2.2.1 x.2.2.2 := by kernel_rfl
theorem ok116 (n : Nat) : FnOk Try.prog TT 116 (s116 n) := fn_native (an := an116) (n := n) Try.func116 rfl (by kernel_rfl) tblOk (env_cons (ok96 n) body96 env_nil) follows (ev116 n)
theorem body116 : HasBody Try.prog 116 := ⟨_, _, Try.func116, rfl, by kernel_rfl⟩
end Go.Proofs.Ytjbfgbgibmebfaa.Ev
