/- Tables of types; summaries of the functions. Conditions: none. -/
import Derived.Test.YtglbgceejloiaaaLib4
import Derived.Test.YtglbgceejloiaaaFnExactDispatchNat
import Derived.Test.YtglbgceejloiaaaProg
import Derived.KernelRfl
namespace Go.Proofs.Ytglbgceejloiaaa.Ev
open Go Go.Ev Go.Proofs
set_option linter.unusedVariables false
set_option maxRecDepth 100000

abbrev I : L := .int .i64
/-- Package-level variables that are looked at. -/
abbrev TT : List (String × Array Value) := []
def k0 : Ls := (.cons .str (.one (.int .u64)))
def k1 : Ls := (.cons I (.one I))
def k2 : Ls := (.cons I (.cons I (.one I)))
def k3 : Ls := (.cons I (.cons I (.cons .bool (.one (.int .u8)))))
def k4 : Ls := (.cons I (.cons I (.cons I (.one I))))
def k5 : Ls := (.cons I (.cons I (.cons I (.cons .bool (.one I)))))
def k6 : Ls := (.cons I (.cons I (.one (.sl 3 (.one I)))))
def k7 : Ls := (.cons I (.cons I (.one (.sl 109 k2))))
def k8 : Ls := (.cons (.sl 5 (.one (.int .u8))) (.cons I (.one I)))
def k9 : Ls := (.cons I (.cons I (.one (.sl 218 k2))))
def k10 : Ls := (.cons I (.cons I (.cons (.sl 61 k1) (.cons (.sl 170 k2) (.one I)))))
def k11 : Ls := (.cons I (.one (.sl 54 k10)))
def k12 : Ls := (.cons I (.cons I (.cons (.sl 3 (.one I)) (.cons (.sl 104 k7) (.cons I (.cons (.sl 54 k10) (.cons (.sl 43 k5) (.cons (.sl 75 k4) (.cons (.sl 3 (.one I)) (.cons (.sl 3 (.one I)) (.one I)))))))))))
def tbl : List (Nat × Ty) := [
  (3, ⟨false, (.one I), [], false⟩),
  (4, ⟨false, (.one .bool), [], false⟩),
  (24, ⟨false, (.one (.sl 3 (.one I))), [], false⟩),
  (26, ⟨true, k6, [(0, 3), (1, 3), (2, 24)], false⟩),
  (27, ⟨false, (.one (.sl 104 k7)), [], false⟩),
  (29, ⟨true, (.one (.sl 104 k7)), [(0, 27)], false⟩),
  (35, ⟨false, (.one (.sl 43 k5)), [], false⟩),
  (36, ⟨false, (.one (.sl 75 k4)), [], false⟩),
  (43, ⟨true, k5, [(0, 3), (1, 3), (2, 3), (3, 4), (4, 3)], true⟩),
  (75, ⟨true, k4, [(0, 3), (1, 3), (2, 3), (3, 3)], true⟩),
  (76, ⟨true, k6, [(0, 3), (1, 3), (2, 24)], false⟩),
  (77, ⟨false, (.one (.sl 190 k9)), [], false⟩),
  (79, ⟨true, (.one (.sl 190 k9)), [(0, 77)], false⟩),
  (80, ⟨false, (.one (.sl 152 k5)), [], false⟩),
  (81, ⟨false, (.one (.sl 154 k4)), [], false⟩),
  (102, ⟨false, (.one (.sl 109 k2)), [], false⟩),
  (104, ⟨true, k7, [(0, 3), (1, 3), (2, 102)], false⟩),
  (109, ⟨true, k2, [(0, 3), (1, 3), (2, 3)], true⟩),
  (138, ⟨false, (.one (.sl 24 (.one (.sl 3 (.one I))))), [], false⟩),
  (152, ⟨true, k5, [(0, 3), (1, 3), (2, 3), (3, 4), (4, 3)], true⟩),
  (154, ⟨true, k4, [(0, 3), (1, 3), (2, 3), (3, 3)], true⟩),
  (177, ⟨false, (.one (.sl 4 (.one .bool))), [], false⟩),
  (188, ⟨false, (.one (.sl 218 k2)), [], false⟩),
  (190, ⟨true, k9, [(0, 3), (1, 3), (2, 188)], false⟩),
  (218, ⟨true, k2, [(0, 3), (1, 3), (2, 3)], true⟩)]
theorem tblOk : tbl.all (fun p => tyB Try.prog p.1 p.2) = true := by kernel_rfl
theorem follows : Try.prog.follows .mixedOrders = true := by kernel_rfl
-- laws_szIntS
def sm114 : Sm := ⟨[.val false [(.sl 3 (.one I))], .val false [I]], [(false, [(I, 0)])]⟩
def an114 : An := ⟨fun _ => none,
  fun _ => none,
  fun _ => none,
  fun _ => []⟩
def s114 (n : Nat) : SmF := ⟨sm114, fun x => N.laws_szIntS x.1 x.2⟩
def env114 (n : Nat) : List (FuncId × SmF) := []
theorem body114 : HasBody Try.prog 114 := ⟨_, _, Try.func114, rfl, by kernel_rfl⟩
theorem ev114 (n : Nat) (x : sm114.ins.D) : evFn (find tbl) (plain (env114 n)) an114 n Try.f114 sm114 x = N.laws_szIntS x.1 x.2 := by kernel_rfl
theorem ok114 (n : Nat) : FnOk Try.prog TT 114 (s114 n) := fn_native (an := an114) (n := n) Try.func114 rfl (by kernel_rfl) tblOk (env_plain env_nil) follows (ev114 n)

-- laws_szFloor
def sm35 : Sm := ⟨[.val true [I, I, (.sl 3 (.one I))], .val false [I]], [(false, [(I, 0)])]⟩
def an35 : An := ⟨fun _ => none,
  fun _ => none,
  fun _ => none,
  fun _ => []⟩
def s35 (n : Nat) : SmF := ⟨sm35, fun x => N.laws_szFloor x.1 x.2.1 x.2.2.1 x.2.2.2⟩
def env35 (n : Nat) : List (FuncId × SmF) := [(114, s114 n)]
theorem body35 : HasBody Try.prog 35 := ⟨_, _, Try.func35, rfl, by kernel_rfl⟩
theorem ev35 (n : Nat) (x : sm35.ins.D) : evFn (find tbl) (plain (env35 n)) an35 n Try.f35 sm35 x = N.laws_szFloor x.1 x.2.1 x.2.2.1 x.2.2.2 := by kernel_rfl
theorem ok35 (n : Nat) : FnOk Try.prog TT 35 (s35 n) := fn_native (an := an35) (n := n) Try.func35 rfl (by kernel_rfl) tblOk (env_plain (env_cons (ok114 n) body114 env_nil)) follows (ev35 n)

-- laws_szStackS
def sm181 : Sm := ⟨[.val false [(.sl 218 k2)], .val false [I]], [(false, [(I, 0)])]⟩
def an181 : An := ⟨fun _ => none,
  fun _ => none,
  fun _ => none,
  fun _ => []⟩
def s181 (n : Nat) : SmF := ⟨sm181, fun x => N.laws_szStackS x.1 x.2⟩
def env181 (n : Nat) : List (FuncId × SmF) := []
theorem body181 : HasBody Try.prog 181 := ⟨_, _, Try.func181, rfl, by kernel_rfl⟩
theorem ev181 (n : Nat) (x : sm181.ins.D) : evFn (find tbl) (plain (env181 n)) an181 n Try.f181 sm181 x = N.laws_szStackS x.1 x.2 := by kernel_rfl
theorem ok181 (n : Nat) : FnOk Try.prog TT 181 (s181 n) := fn_native (an := an181) (n := n) Try.func181 rfl (by kernel_rfl) tblOk (env_plain env_nil) follows (ev181 n)

-- laws_szPod
def sm161 : Sm := ⟨[.val true [I, I, (.sl 218 k2)], .val false [I]], [(false, [(I, 0)])]⟩
def an161 : An := ⟨fun _ => none,
  fun _ => none,
  fun _ => none,
  fun _ => []⟩
def s161 (n : Nat) : SmF := ⟨sm161, fun x => N.laws_szPod x.1 x.2.1 x.2.2.1 x.2.2.2⟩
def env161 (n : Nat) : List (FuncId × SmF) := [(181, s181 n)]
theorem body161 : HasBody Try.prog 161 := ⟨_, _, Try.func161, rfl, by kernel_rfl⟩
theorem ev161 (n : Nat) (x : sm161.ins.D) : evFn (find tbl) (plain (env161 n)) an161 n Try.f161 sm161 x = N.laws_szPod x.1 x.2.1 x.2.2.1 x.2.2.2 := by kernel_rfl
theorem ok161 (n : Nat) : FnOk Try.prog TT 161 (s161 n) := fn_native (an := an161) (n := n) Try.func161 rfl (by kernel_rfl) tblOk (env_plain (env_cons (ok181 n) body181 env_nil)) follows (ev161 n)

-- laws_szPodS
def sm115 : Sm := ⟨[.val false [(.sl 190 k9)], .val false [I]], [(false, [(I, 0)])]⟩
def an115 : An := ⟨fun _ => none,
  fun b => match b with
    | 0 => some ([.slot 1 I, .slot 5 I], true)
    | _ => none,
  fun _ => none,
  fun _ => []⟩
def s115 (n : Nat) : SmF := ⟨sm115, fun x => N.laws_szPodS n x.1 x.2⟩
def env115 (n : Nat) : List (FuncId × SmF) := [(161, s161 n)]
theorem body115 : HasBody Try.prog 115 := ⟨_, _, Try.func115, rfl, by kernel_rfl⟩
theorem ev115 (n : Nat) (x : sm115.ins.D) : evFn (find tbl) (plain (env115 n)) an115 n Try.f115 sm115 x = N.laws_szPodS n x.1 x.2 := by kernel_rfl
theorem ok115 (n : Nat) : FnOk Try.prog TT 115 (s115 n) := fn_native (an := an115) (n := n) Try.func115 rfl (by kernel_rfl) tblOk (env_plain (env_cons (ok161 n) body161 env_nil)) follows (ev115 n)

-- laws_szStock
def sm36 : Sm := ⟨[.val true [(.sl 190 k9)], .val false [I]], [(false, [(I, 0)])]⟩
def an36 : An := ⟨fun _ => none,
  fun _ => none,
  fun _ => none,
  fun _ => []⟩
def s36 (n : Nat) : SmF := ⟨sm36, fun x => N.laws_szStock n x.1 x.2⟩
def env36 (n : Nat) : List (FuncId × SmF) := [(115, s115 n)]
theorem body36 : HasBody Try.prog 36 := ⟨_, _, Try.func36, rfl, by kernel_rfl⟩
theorem ev36 (n : Nat) (x : sm36.ins.D) : evFn (find tbl) (plain (env36 n)) an36 n Try.f36 sm36 x = N.laws_szStock n x.1 x.2 := by kernel_rfl
theorem ok36 (n : Nat) : FnOk Try.prog TT 36 (s36 n) := fn_native (an := an36) (n := n) Try.func36 rfl (by kernel_rfl) tblOk (env_plain (env_cons (ok115 n) body115 env_nil)) follows (ev36 n)

-- laws_szRobotS
def sm37 : Sm := ⟨[.val false [(.sl 152 k5)], .val false [I]], [(false, [(I, 0)])]⟩
def an37 : An := ⟨fun _ => none,
  fun _ => none,
  fun _ => none,
  fun _ => []⟩
def s37 (n : Nat) : SmF := ⟨sm37, fun x => N.laws_szRobotS x.1 x.2⟩
def env37 (n : Nat) : List (FuncId × SmF) := []
theorem body37 : HasBody Try.prog 37 := ⟨_, _, Try.func37, rfl, by kernel_rfl⟩
theorem ev37 (n : Nat) (x : sm37.ins.D) : evFn (find tbl) (plain (env37 n)) an37 n Try.f37 sm37 x = N.laws_szRobotS x.1 x.2 := by kernel_rfl
theorem ok37 (n : Nat) : FnOk Try.prog TT 37 (s37 n) := fn_native (an := an37) (n := n) Try.func37 rfl (by kernel_rfl) tblOk (env_plain env_nil) follows (ev37 n)

-- laws_szTaskS
def sm38 : Sm := ⟨[.val false [(.sl 154 k4)], .val false [I]], [(false, [(I, 0)])]⟩
def an38 : An := ⟨fun _ => none,
  fun _ => none,
  fun _ => none,
  fun _ => []⟩
def s38 (n : Nat) : SmF := ⟨sm38, fun x => N.laws_szTaskS x.1 x.2⟩
def env38 (n : Nat) : List (FuncId × SmF) := []
theorem body38 : HasBody Try.prog 38 := ⟨_, _, Try.func38, rfl, by kernel_rfl⟩
theorem ev38 (n : Nat) (x : sm38.ins.D) : evFn (find tbl) (plain (env38 n)) an38 n Try.f38 sm38 x = N.laws_szTaskS x.1 x.2 := by kernel_rfl
theorem ok38 (n : Nat) : FnOk Try.prog TT 38 (s38 n) := fn_native (an := an38) (n := n) Try.func38 rfl (by kernel_rfl) tblOk (env_plain env_nil) follows (ev38 n)

-- laws_toIntS
def sm116 : Sm := ⟨[.val false [(.sl 3 (.one I))]], [(false, [((.sl 3 (.one I)), 2)])]⟩
def an116 : An := ⟨fun _ => none,
  fun b => match b with
    | 0 => some ([.slot 4 I, .own 3 3 (.one I) 2 false], false)
    | _ => none,
  fun _ => none,
  fun _ => []⟩
def s116 (n : Nat) : SmF := ⟨sm116, fun x => N.laws_toIntS n x⟩
def env116 (n : Nat) : List (FuncId × SmF) := []
theorem body116 : HasBody Try.prog 116 := ⟨_, _, Try.func116, rfl, by kernel_rfl⟩
theorem ev116 (n : Nat) (x : sm116.ins.D) : evFn (find tbl) (plain (env116 n)) an116 n Try.f116 sm116 x = N.laws_toIntS n x := by kernel_rfl
theorem ok116 (n : Nat) : FnOk Try.prog TT 116 (s116 n) := fn_native (an := an116) (n := n) Try.func116 rfl (by kernel_rfl) tblOk (env_plain env_nil) follows (ev116 n)

-- laws_toFloor
def sm39 : Sm := ⟨[.val true [I, I, (.sl 3 (.one I))]], [(true, [(I, 0), (I, 0), ((.sl 3 (.one I)), 2)])]⟩
def an39 : An := ⟨fun _ => none,
  fun _ => none,
  fun _ => none,
  fun _ => []⟩
def s39 (n : Nat) : SmF := ⟨sm39, fun x => N.laws_toFloor n x.1 x.2.1 x.2.2⟩
def env39 (n : Nat) : List (FuncId × SmF) := [(116, s116 n)]
theorem body39 : HasBody Try.prog 39 := ⟨_, _, Try.func39, rfl, by kernel_rfl⟩
theorem ev39 (n : Nat) (x : sm39.ins.D) : evFn (find tbl) (plain (env39 n)) an39 n Try.f39 sm39 x = N.laws_toFloor n x.1 x.2.1 x.2.2 := by kernel_rfl
theorem ok39 (n : Nat) : FnOk Try.prog TT 39 (s39 n) := fn_native (an := an39) (n := n) Try.func39 rfl (by kernel_rfl) tblOk (env_plain (env_cons (ok116 n) body116 env_nil)) follows (ev39 n)

-- laws_toStack
def sm193 : Sm := ⟨[.val true [I, I, I]], [(true, [(I, 0), (I, 0), (I, 0)])]⟩
def an193 : An := ⟨fun _ => none,
  fun _ => none,
  fun _ => none,
  fun _ => []⟩
def s193 (n : Nat) : SmF := ⟨sm193, fun x => N.laws_toStack x.1 x.2.1 x.2.2⟩
def env193 (n : Nat) : List (FuncId × SmF) := []
theorem body193 : HasBody Try.prog 193 := ⟨_, _, Try.func193, rfl, by kernel_rfl⟩
theorem ev193 (n : Nat) (x : sm193.ins.D) : evFn (find tbl) (plain (env193 n)) an193 n Try.f193 sm193 x = N.laws_toStack x.1 x.2.1 x.2.2 := by kernel_rfl
theorem ok193 (n : Nat) : FnOk Try.prog TT 193 (s193 n) := fn_native (an := an193) (n := n) Try.func193 rfl (by kernel_rfl) tblOk (env_plain env_nil) follows (ev193 n)

-- laws_toStackS
def sm182 : Sm := ⟨[.val false [(.sl 218 k2)]], [(false, [((.sl 109 k2), 2)])]⟩
def an182 : An := ⟨fun _ => none,
  fun b => match b with
    | 0 => some ([.slot 4 I, .own 3 109 k2 2 false], false)
    | _ => none,
  fun _ => none,
  fun _ => []⟩
def s182 (n : Nat) : SmF := ⟨sm182, fun x => N.laws_toStackS n x⟩
def env182 (n : Nat) : List (FuncId × SmF) := [(193, s193 n)]
theorem body182 : HasBody Try.prog 182 := ⟨_, _, Try.func182, rfl, by kernel_rfl⟩
theorem ev182 (n : Nat) (x : sm182.ins.D) : evFn (find tbl) (plain (env182 n)) an182 n Try.f182 sm182 x = N.laws_toStackS n x := by kernel_rfl
theorem ok182 (n : Nat) : FnOk Try.prog TT 182 (s182 n) := fn_native (an := an182) (n := n) Try.func182 rfl (by kernel_rfl) tblOk (env_plain (env_cons (ok193 n) body193 env_nil)) follows (ev182 n)

-- laws_toPod
def sm162 : Sm := ⟨[.val true [I, I, (.sl 218 k2)]], [(true, [(I, 0), (I, 0), ((.sl 109 k2), 2)])]⟩
def an162 : An := ⟨fun _ => none,
  fun _ => none,
  fun _ => none,
  fun _ => []⟩
def s162 (n : Nat) : SmF := ⟨sm162, fun x => N.laws_toPod n x.1 x.2.1 x.2.2⟩
def env162 (n : Nat) : List (FuncId × SmF) := [(182, s182 n)]
theorem body162 : HasBody Try.prog 162 := ⟨_, _, Try.func162, rfl, by kernel_rfl⟩
theorem ev162 (n : Nat) (x : sm162.ins.D) : evFn (find tbl) (plain (env162 n)) an162 n Try.f162 sm162 x = N.laws_toPod n x.1 x.2.1 x.2.2 := by kernel_rfl
theorem ok162 (n : Nat) : FnOk Try.prog TT 162 (s162 n) := fn_native (an := an162) (n := n) Try.func162 rfl (by kernel_rfl) tblOk (env_plain (env_cons (ok182 n) body182 env_nil)) follows (ev162 n)

-- laws_toPodS
def sm117 : Sm := ⟨[.val false [(.sl 190 k9)]], [(false, [((.sl 104 k7), 2)])]⟩
def an117 : An := ⟨fun _ => none,
  fun b => match b with
    | 0 => some ([.slot 4 I, .own 3 104 k7 2 false], false)
    | _ => none,
  fun _ => none,
  fun _ => []⟩
def s117 (n : Nat) : SmF := ⟨sm117, fun x => N.laws_toPodS n x⟩
def env117 (n : Nat) : List (FuncId × SmF) := [(162, s162 n)]
theorem body117 : HasBody Try.prog 117 := ⟨_, _, Try.func117, rfl, by kernel_rfl⟩
theorem ev117 (n : Nat) (x : sm117.ins.D) : evFn (find tbl) (plain (env117 n)) an117 n Try.f117 sm117 x = N.laws_toPodS n x := by kernel_rfl
theorem ok117 (n : Nat) : FnOk Try.prog TT 117 (s117 n) := fn_native (an := an117) (n := n) Try.func117 rfl (by kernel_rfl) tblOk (env_plain (env_cons (ok162 n) body162 env_nil)) follows (ev117 n)

-- laws_toStock
def sm40 : Sm := ⟨[.val true [(.sl 190 k9)]], [(true, [((.sl 104 k7), 2)])]⟩
def an40 : An := ⟨fun _ => none,
  fun _ => none,
  fun _ => none,
  fun _ => []⟩
def s40 (n : Nat) : SmF := ⟨sm40, fun x => N.laws_toStock n x⟩
def env40 (n : Nat) : List (FuncId × SmF) := [(117, s117 n)]
theorem body40 : HasBody Try.prog 40 := ⟨_, _, Try.func40, rfl, by kernel_rfl⟩
theorem ev40 (n : Nat) (x : sm40.ins.D) : evFn (find tbl) (plain (env40 n)) an40 n Try.f40 sm40 x = N.laws_toStock n x := by kernel_rfl
theorem ok40 (n : Nat) : FnOk Try.prog TT 40 (s40 n) := fn_native (an := an40) (n := n) Try.func40 rfl (by kernel_rfl) tblOk (env_plain (env_cons (ok117 n) body117 env_nil)) follows (ev40 n)

-- laws_toRobot
def sm118 : Sm := ⟨[.val true [I, I, I, .bool, I]], [(true, [(I, 0), (I, 0), (I, 0), (.bool, 0), (I, 0)])]⟩
def an118 : An := ⟨fun _ => none,
  fun _ => none,
  fun _ => none,
  fun _ => []⟩
def s118 (n : Nat) : SmF := ⟨sm118, fun x => N.laws_toRobot x.1 x.2.1 x.2.2.1 x.2.2.2.1 x.2.2.2.2⟩
def env118 (n : Nat) : List (FuncId × SmF) := []
theorem body118 : HasBody Try.prog 118 := ⟨_, _, Try.func118, rfl, by kernel_rfl⟩
theorem ev118 (n : Nat) (x : sm118.ins.D) : evFn (find tbl) (plain (env118 n)) an118 n Try.f118 sm118 x = N.laws_toRobot x.1 x.2.1 x.2.2.1 x.2.2.2.1 x.2.2.2.2 := by kernel_rfl
theorem ok118 (n : Nat) : FnOk Try.prog TT 118 (s118 n) := fn_native (an := an118) (n := n) Try.func118 rfl (by kernel_rfl) tblOk (env_plain env_nil) follows (ev118 n)

-- laws_toRobotS
def sm41 : Sm := ⟨[.val false [(.sl 152 k5)]], [(false, [((.sl 43 k5), 2)])]⟩
def an41 : An := ⟨fun _ => none,
  fun b => match b with
    | 0 => some ([.slot 4 I, .own 3 43 k5 2 false], false)
    | _ => none,
  fun _ => none,
  fun _ => []⟩
def s41 (n : Nat) : SmF := ⟨sm41, fun x => N.laws_toRobotS n x⟩
def env41 (n : Nat) : List (FuncId × SmF) := [(118, s118 n)]
theorem body41 : HasBody Try.prog 41 := ⟨_, _, Try.func41, rfl, by kernel_rfl⟩
theorem ev41 (n : Nat) (x : sm41.ins.D) : evFn (find tbl) (plain (env41 n)) an41 n Try.f41 sm41 x = N.laws_toRobotS n x := by kernel_rfl
theorem ok41 (n : Nat) : FnOk Try.prog TT 41 (s41 n) := fn_native (an := an41) (n := n) Try.func41 rfl (by kernel_rfl) tblOk (env_plain (env_cons (ok118 n) body118 env_nil)) follows (ev41 n)

-- laws_toTask
def sm119 : Sm := ⟨[.val true [I, I, I, I]], [(true, [(I, 0), (I, 0), (I, 0), (I, 0)])]⟩
def an119 : An := ⟨fun _ => none,
  fun _ => none,
  fun _ => none,
  fun _ => []⟩
def s119 (n : Nat) : SmF := ⟨sm119, fun x => N.laws_toTask x.1 x.2.1 x.2.2.1 x.2.2.2⟩
def env119 (n : Nat) : List (FuncId × SmF) := []
theorem body119 : HasBody Try.prog 119 := ⟨_, _, Try.func119, rfl, by kernel_rfl⟩
theorem ev119 (n : Nat) (x : sm119.ins.D) : evFn (find tbl) (plain (env119 n)) an119 n Try.f119 sm119 x = N.laws_toTask x.1 x.2.1 x.2.2.1 x.2.2.2 := by kernel_rfl
theorem ok119 (n : Nat) : FnOk Try.prog TT 119 (s119 n) := fn_native (an := an119) (n := n) Try.func119 rfl (by kernel_rfl) tblOk (env_plain env_nil) follows (ev119 n)

-- laws_toTaskS
def sm42 : Sm := ⟨[.val false [(.sl 154 k4)]], [(false, [((.sl 75 k4), 2)])]⟩
def an42 : An := ⟨fun _ => none,
  fun b => match b with
    | 0 => some ([.slot 4 I, .own 3 75 k4 2 false], false)
    | _ => none,
  fun _ => none,
  fun _ => []⟩
def s42 (n : Nat) : SmF := ⟨sm42, fun x => N.laws_toTaskS n x⟩
def env42 (n : Nat) : List (FuncId × SmF) := [(119, s119 n)]
theorem body42 : HasBody Try.prog 42 := ⟨_, _, Try.func42, rfl, by kernel_rfl⟩
theorem ev42 (n : Nat) (x : sm42.ins.D) : evFn (find tbl) (plain (env42 n)) an42 n Try.f42 sm42 x = N.laws_toTaskS n x := by kernel_rfl
theorem ok42 (n : Nat) : FnOk Try.prog TT 42 (s42 n) := fn_native (an := an42) (n := n) Try.func42 rfl (by kernel_rfl) tblOk (env_plain (env_cons (ok119 n) body119 env_nil)) follows (ev42 n)

-- spec_l1In
def sm67 : Sm := ⟨[.val false [I], .val false [I], .val false [I]], [(false, [(.bool, 0)])]⟩
def an67 : An := ⟨fun _ => none,
  fun _ => none,
  fun _ => none,
  fun _ => []⟩
def s67 (n : Nat) : SmF := ⟨sm67, fun x => N.spec_l1In x.1 x.2.1 x.2.2⟩
def env67 (n : Nat) : List (FuncId × SmF) := []
theorem body67 : HasBody Try.prog 67 := ⟨_, _, Try.func67, rfl, by kernel_rfl⟩
theorem ev67 (n : Nat) (x : sm67.ins.D) : evFn (find tbl) (plain (env67 n)) an67 n Try.f67 sm67 x = N.spec_l1In x.1 x.2.1 x.2.2 := by kernel_rfl
theorem ok67 (n : Nat) : FnOk Try.prog TT 67 (s67 n) := fn_native (an := an67) (n := n) Try.func67 rfl (by kernel_rfl) tblOk (env_plain env_nil) follows (ev67 n)

-- spec_l5Stacks
def sm112 : Sm := ⟨[.val false [(.sl 109 k2)]], [(false, [(.bool, 0)])]⟩
def an112 : An := ⟨fun _ => none,
  fun b => match b with
    | 0 => some ([.slot 3 I], true)
    | _ => none,
  fun _ => none,
  fun _ => []⟩
def s112 (n : Nat) : SmF := ⟨sm112, fun x => N.spec_l5Stacks n x⟩
def env112 (n : Nat) : List (FuncId × SmF) := [(67, s67 n)]
theorem body112 : HasBody Try.prog 112 := ⟨_, _, Try.func112, rfl, by kernel_rfl⟩
theorem ev112 (n : Nat) (x : sm112.ins.D) : evFn (find tbl) (plain (env112 n)) an112 n Try.f112 sm112 x = N.spec_l5Stacks n x := by kernel_rfl
theorem ok112 (n : Nat) : FnOk Try.prog TT 112 (s112 n) := fn_native (an := an112) (n := n) Try.func112 rfl (by kernel_rfl) tblOk (env_plain (env_cons (ok67 n) body67 env_nil)) follows (ev112 n)

-- spec_StockOk
def sm32 : Sm := ⟨[.val true [(.sl 104 k7)]], [(false, [(.bool, 0)])]⟩
def an32 : An := ⟨fun _ => none,
  fun b => match b with
    | 0 => some ([.slot 3 I], true)
    | 2 => some ([.slot 5 I], true)
    | _ => none,
  fun _ => none,
  fun _ => []⟩
def s32 (n : Nat) : SmF := ⟨sm32, fun x => N.spec_StockOk n x⟩
def env32 (n : Nat) : List (FuncId × SmF) := [(67, s67 n), (112, s112 n)]
theorem body32 : HasBody Try.prog 32 := ⟨_, _, Try.func32, rfl, by kernel_rfl⟩
theorem ev32 (n : Nat) (x : sm32.ins.D) : evFn (find tbl) (plain (env32 n)) an32 n Try.f32 sm32 x = N.spec_StockOk n x := by kernel_rfl
theorem ok32 (n : Nat) : FnOk Try.prog TT 32 (s32 n) := fn_native (an := an32) (n := n) Try.func32 rfl (by kernel_rfl) tblOk (env_plain (env_cons (ok67 n) body67 (env_cons (ok112 n) body112 env_nil))) follows (ev32 n)

-- spec_FloorOk
def sm56 : Sm := ⟨[.val true [I, I, (.sl 3 (.one I))]], [(false, [(.bool, 0)])]⟩
def an56 : An := ⟨fun _ => none,
  fun b => match b with
    | 0 => some ([.slot 3 I], true)
    | _ => none,
  fun _ => none,
  fun _ => []⟩
def s56 (n : Nat) : SmF := ⟨sm56, fun x => N.spec_FloorOk n x.1 x.2.1 x.2.2⟩
def env56 (n : Nat) : List (FuncId × SmF) := [(67, s67 n)]
theorem body56 : HasBody Try.prog 56 := ⟨_, _, Try.func56, rfl, by kernel_rfl⟩
theorem ev56 (n : Nat) (x : sm56.ins.D) : evFn (find tbl) (plain (env56 n)) an56 n Try.f56 sm56 x = N.spec_FloorOk n x.1 x.2.1 x.2.2 := by kernel_rfl
theorem ok56 (n : Nat) : FnOk Try.prog TT 56 (s56 n) := fn_native (an := an56) (n := n) Try.func56 rfl (by kernel_rfl) tblOk (env_plain (env_cons (ok67 n) body67 env_nil)) follows (ev56 n)

-- spec_l7Free
def sm111 : Sm := ⟨[.val true [I, I, (.sl 3 (.one I))], .val false [I]], [(false, [(.bool, 0)])]⟩
def an111 : An := ⟨fun _ => none,
  fun _ => none,
  fun _ => none,
  fun _ => []⟩
def s111 (n : Nat) : SmF := ⟨sm111, fun x => N.spec_l7Free x.1 x.2.1 x.2.2.1 x.2.2.2⟩
def env111 (n : Nat) : List (FuncId × SmF) := [(67, s67 n)]
theorem body111 : HasBody Try.prog 111 := ⟨_, _, Try.func111, rfl, by kernel_rfl⟩
theorem ev111 (n : Nat) (x : sm111.ins.D) : evFn (find tbl) (plain (env111 n)) an111 n Try.f111 sm111 x = N.spec_l7Free x.1 x.2.1 x.2.2.1 x.2.2.2 := by kernel_rfl
theorem ok111 (n : Nat) : FnOk Try.prog TT 111 (s111 n) := fn_native (an := an111) (n := n) Try.func111 rfl (by kernel_rfl) tblOk (env_plain (env_cons (ok67 n) body67 env_nil)) follows (ev111 n)

-- spec_CrewOk
def sm30 : Sm := ⟨[.val true [I, I, (.sl 3 (.one I))], .val false [(.sl 43 k5)]], [(false, [(.bool, 0)])]⟩
def an30 : An := ⟨fun _ => none,
  fun b => match b with
    | 0 => some ([.slot 5 I], true)
    | 2 => some ([.slot 7 I], true)
    | _ => none,
  fun _ => none,
  fun _ => []⟩
def s30 (n : Nat) : SmF := ⟨sm30, fun x => N.spec_CrewOk n x.1 x.2.1 x.2.2.1 x.2.2.2⟩
def env30 (n : Nat) : List (FuncId × SmF) := [(56, s56 n), (67, s67 n), (111, s111 n)]
theorem body30 : HasBody Try.prog 30 := ⟨_, _, Try.func30, rfl, by kernel_rfl⟩
theorem ev30 (n : Nat) (x : sm30.ins.D) : evFn (find tbl) (plain (env30 n)) an30 n Try.f30 sm30 x = N.spec_CrewOk n x.1 x.2.1 x.2.2.1 x.2.2.2 := by kernel_rfl
theorem ok30 (n : Nat) : FnOk Try.prog TT 30 (s30 n) := fn_native (an := an30) (n := n) Try.func30 rfl (by kernel_rfl) tblOk (env_plain (env_cons (ok56 n) body56 (env_cons (ok67 n) body67 (env_cons (ok111 n) body111 env_nil)))) follows (ev30 n)

-- spec_TasksOk
def sm31 : Sm := ⟨[.val false [(.sl 75 k4)]], [(false, [(.bool, 0)])]⟩
def an31 : An := ⟨fun _ => none,
  fun b => match b with
    | 0 => some ([.slot 3 I], true)
    | 2 => some ([.slot 6 I], true)
    | _ => none,
  fun _ => none,
  fun _ => []⟩
def s31 (n : Nat) : SmF := ⟨sm31, fun x => N.spec_TasksOk n x⟩
def env31 (n : Nat) : List (FuncId × SmF) := [(67, s67 n)]
theorem body31 : HasBody Try.prog 31 := ⟨_, _, Try.func31, rfl, by kernel_rfl⟩
theorem ev31 (n : Nat) (x : sm31.ins.D) : evFn (find tbl) (plain (env31 n)) an31 n Try.f31 sm31 x = N.spec_TasksOk n x := by kernel_rfl
theorem ok31 (n : Nat) : FnOk Try.prog TT 31 (s31 n) := fn_native (an := an31) (n := n) Try.func31 rfl (by kernel_rfl) tblOk (env_plain (env_cons (ok67 n) body67 env_nil)) follows (ev31 n)

-- spec_l12Idle
def sm106 : Sm := ⟨[.val false [(.sl 43 k5)], .val false [(.sl 75 k4)]], [(false, [((.sl 3 (.one I)), 2)])]⟩
def an106 : An := ⟨fun _ => none,
  fun b => match b with
    | 0 => some ([.own 5 3 (.one I) 2 false, .slot 6 I], false)
    | 2 => some ([.slot 7 .bool, .slot 8 I], false)
    | _ => none,
  fun b => match b with
    | 7 => some ([.own 5 3 (.one I) 2 false], false)
    | _ => none,
  fun _ => []⟩
def s106 (n : Nat) : SmF := ⟨sm106, fun x => N.spec_l12Idle n x.1 x.2⟩
def env106 (n : Nat) : List (FuncId × SmF) := []
theorem body106 : HasBody Try.prog 106 := ⟨_, _, Try.func106, rfl, by kernel_rfl⟩
theorem ev106 (n : Nat) (x : sm106.ins.D) : evFn (find tbl) (plain (env106 n)) an106 n Try.f106 sm106 x = N.spec_l12Idle n x.1 x.2 := by kernel_rfl
theorem ok106 (n : Nat) : FnOk Try.prog TT 106 (s106 n) := fn_native (an := an106) (n := n) Try.func106 rfl (by kernel_rfl) tblOk (env_plain env_nil) follows (ev106 n)

-- spec_l5Pod
def sm109 : Sm := ⟨[.val true [(.sl 104 k7)], .val false [I]], [(false, [(I, 0)])]⟩
def an109 : An := ⟨fun _ => none,
  fun b => match b with
    | 0 => some ([.slot 5 I], true)
    | _ => none,
  fun _ => none,
  fun _ => []⟩
def s109 (n : Nat) : SmF := ⟨sm109, fun x => N.spec_l5Pod n x.1 x.2⟩
def env109 (n : Nat) : List (FuncId × SmF) := []
theorem body109 : HasBody Try.prog 109 := ⟨_, _, Try.func109, rfl, by kernel_rfl⟩
theorem ev109 (n : Nat) (x : sm109.ins.D) : evFn (find tbl) (plain (env109 n)) an109 n Try.f109 sm109 x = N.spec_l5Pod n x.1 x.2 := by kernel_rfl
theorem ok109 (n : Nat) : FnOk Try.prog TT 109 (s109 n) := fn_native (an := an109) (n := n) Try.func109 rfl (by kernel_rfl) tblOk (env_plain env_nil) follows (ev109 n)

-- spec_l6Among
def sm156 : Sm := ⟨[.val false [(.sl 3 (.one I))], .val false [I]], [(false, [(.bool, 0)])]⟩
def an156 : An := ⟨fun _ => none,
  fun b => match b with
    | 0 => some ([.slot 5 I], true)
    | _ => none,
  fun _ => none,
  fun _ => []⟩
def s156 (n : Nat) : SmF := ⟨sm156, fun x => N.spec_l6Among n x.1 x.2⟩
def env156 (n : Nat) : List (FuncId × SmF) := []
theorem body156 : HasBody Try.prog 156 := ⟨_, _, Try.func156, rfl, by kernel_rfl⟩
theorem ev156 (n : Nat) (x : sm156.ins.D) : evFn (find tbl) (plain (env156 n)) an156 n Try.f156 sm156 x = N.spec_l6Among n x.1 x.2 := by kernel_rfl
theorem ok156 (n : Nat) : FnOk Try.prog TT 156 (s156 n) := fn_native (an := an156) (n := n) Try.func156 rfl (by kernel_rfl) tblOk (env_plain env_nil) follows (ev156 n)

-- spec_l12Ready
def sm107 : Sm := ⟨[.val true [(.sl 104 k7)], .val false [(.sl 75 k4)], .val false [I]], [(false, [((.sl 3 (.one I)), 2)])]⟩
def an107 : An := ⟨fun _ => none,
  fun b => match b with
    | 0 => some ([.own 8 3 (.one I) 2 false, .slot 9 I], false)
    | 2 => some ([.own 7 3 (.one I) 2 false, .own 8 3 (.one I) 2 false, .slot 10 I], false)
    | _ => none,
  fun b => match b with
    | 7 => some ([.own 8 3 (.one I) 2 false], false)
    | 13 => some ([.own 7 3 (.one I) 2 false, .own 8 3 (.one I) 2 false], false)
    | _ => none,
  fun _ => []⟩
def s107 (n : Nat) : SmF := ⟨sm107, fun x => N.spec_l12Ready n x.1 x.2.1 x.2.2⟩
def env107 (n : Nat) : List (FuncId × SmF) := [(109, s109 n), (156, s156 n)]
theorem body107 : HasBody Try.prog 107 := ⟨_, _, Try.func107, rfl, by kernel_rfl⟩
theorem ev107 (n : Nat) (x : sm107.ins.D) : evFn (find tbl) (plain (env107 n)) an107 n Try.f107 sm107 x = N.spec_l12Ready n x.1 x.2.1 x.2.2 := by kernel_rfl
theorem ok107 (n : Nat) : FnOk Try.prog TT 107 (s107 n) := fn_native (an := an107) (n := n) Try.func107 rfl (by kernel_rfl) tblOk (env_plain (env_cons (ok109 n) body109 (env_cons (ok156 n) body156 env_nil))) follows (ev107 n)

-- spec_l1Cell
def sm179 : Sm := ⟨[.val true [I, I, (.sl 3 (.one I))], .val false [I]], [(false, [(.bool, 0)])]⟩
def an179 : An := ⟨fun _ => none,
  fun _ => none,
  fun _ => none,
  fun _ => []⟩
def s179 (n : Nat) : SmF := ⟨sm179, fun x => N.spec_l1Cell n x.1 x.2.1 x.2.2.1 x.2.2.2⟩
def env179 (n : Nat) : List (FuncId × SmF) := [(56, s56 n), (67, s67 n)]
theorem body179 : HasBody Try.prog 179 := ⟨_, _, Try.func179, rfl, by kernel_rfl⟩
theorem ev179 (n : Nat) (x : sm179.ins.D) : evFn (find tbl) (plain (env179 n)) an179 n Try.f179 sm179 x = N.spec_l1Cell n x.1 x.2.1 x.2.2.1 x.2.2.2 := by kernel_rfl
theorem ok179 (n : Nat) : FnOk Try.prog TT 179 (s179 n) := fn_native (an := an179) (n := n) Try.func179 rfl (by kernel_rfl) tblOk (env_plain (env_cons (ok56 n) body56 (env_cons (ok67 n) body67 env_nil))) follows (ev179 n)

-- spec_l1Beside
def sm197 : Sm := ⟨[.val true [I, I, (.sl 3 (.one I))], .val false [I]], [(false, [((.sl 3 (.one I)), 2)])]⟩
def an197 : An := ⟨fun _ => none,
  fun _ => none,
  fun b => match b with
    | 15 => some ([.own 5 3 (.one I) 2 false], false)
    | 21 => some ([.own 5 3 (.one I) 2 false], false)
    | 27 => some ([.own 5 3 (.one I) 2 false], false)
    | 33 => some ([.own 5 3 (.one I) 2 false], false)
    | _ => none,
  fun _ => []⟩
def s197 (n : Nat) : SmF := ⟨sm197, fun x => N.spec_l1Beside x.1 x.2.1 x.2.2.1 x.2.2.2⟩
def env197 (n : Nat) : List (FuncId × SmF) := []
theorem body197 : HasBody Try.prog 197 := ⟨_, _, Try.func197, rfl, by kernel_rfl⟩
theorem ev197 (n : Nat) (x : sm197.ins.D) : evFn (find tbl) (plain (env197 n)) an197 n Try.f197 sm197 x = N.spec_l1Beside x.1 x.2.1 x.2.2.1 x.2.2.2 := by kernel_rfl
theorem ok197 (n : Nat) : FnOk Try.prog TT 197 (s197 n) := fn_native (an := an197) (n := n) Try.func197 rfl (by kernel_rfl) tblOk (env_plain env_nil) follows (ev197 n)

-- spec_l1Near
def sm196 : Sm := ⟨[.val true [I, I, (.sl 3 (.one I))], .val false [I], .val false [.bool]], [(false, [((.sl 3 (.one I)), 2)])]⟩
def an196 : An := ⟨fun _ => none,
  fun b => match b with
    | 0 => some ([.own 7 3 (.one I) 2 false, .slot 9 I], false)
    | _ => none,
  fun b => match b with
    | 7 => some ([.own 7 3 (.one I) 2 false], false)
    | _ => none,
  fun _ => []⟩
def s196 (n : Nat) : SmF := ⟨sm196, fun x => N.spec_l1Near n x.1 x.2.1 x.2.2.1 x.2.2.2.1 x.2.2.2.2⟩
def env196 (n : Nat) : List (FuncId × SmF) := [(197, s197 n)]
theorem body196 : HasBody Try.prog 196 := ⟨_, _, Try.func196, rfl, by kernel_rfl⟩
theorem ev196 (n : Nat) (x : sm196.ins.D) : evFn (find tbl) (plain (env196 n)) an196 n Try.f196 sm196 x = N.spec_l1Near n x.1 x.2.1 x.2.2.1 x.2.2.2.1 x.2.2.2.2 := by kernel_rfl
theorem ok196 (n : Nat) : FnOk Try.prog TT 196 (s196 n) := fn_native (an := an196) (n := n) Try.func196 rfl (by kernel_rfl) tblOk (env_plain (env_cons (ok197 n) body197 env_nil)) follows (ev196 n)

-- spec_l2Field
def sm192 : Sm := ⟨[.val true [I, I, (.sl 3 (.one I))], .val false [I], .val false [.bool]], [(false, [((.sl 3 (.one I)), 2)])]⟩
def an192 : An := ⟨fun _ => none,
  fun b => match b with
    | 0 => some ([.own 7 3 (.one I) 2 false, .slot 8 I], false)
    | 2 => some ([.own 9 3 (.one I) 2 false, .slot 10 I, .own 7 3 (.one I) 2 false], false)
    | 4 => some ([.own 9 3 (.one I) 2 false, .slot 13 I, .own 7 3 (.one I) 2 false], false)
    | _ => none,
  fun b => match b with
    | 13 => some ([.own 9 3 (.one I) 2 false, .own 7 3 (.one I) 2 false], false)
    | 19 => some ([.own 9 3 (.one I) 2 false, .own 7 3 (.one I) 2 false], false)
    | _ => none,
  fun _ => []⟩
def s192 (n : Nat) : SmF := ⟨sm192, fun x => N.spec_l2Field n x.1 x.2.1 x.2.2.1 x.2.2.2.1 x.2.2.2.2⟩
def env192 (n : Nat) : List (FuncId × SmF) := [(196, s196 n)]
theorem body192 : HasBody Try.prog 192 := ⟨_, _, Try.func192, rfl, by kernel_rfl⟩
theorem ev192 (n : Nat) (x : sm192.ins.D) : evFn (find tbl) (plain (env192 n)) an192 n Try.f192 sm192 x = N.spec_l2Field n x.1 x.2.1 x.2.2.1 x.2.2.2.1 x.2.2.2.2 := by kernel_rfl
theorem ok192 (n : Nat) : FnOk Try.prog TT 192 (s192 n) := fn_native (an := an192) (n := n) Try.func192 rfl (by kernel_rfl) tblOk (env_plain (env_cons (ok196 n) body196 env_nil)) follows (ev192 n)

-- spec_Field
def sm178 : Sm := ⟨[.val true [I, I, (.sl 3 (.one I))], .val false [I], .val false [.bool]], [(false, [((.sl 3 (.one I)), 2)])]⟩
def an178 : An := ⟨fun _ => none,
  fun _ => none,
  fun _ => none,
  fun _ => []⟩
def s178 (n : Nat) : SmF := ⟨sm178, fun x => N.spec_Field n x.1 x.2.1 x.2.2.1 x.2.2.2.1 x.2.2.2.2⟩
def env178 (n : Nat) : List (FuncId × SmF) := [(179, s179 n), (192, s192 n)]
theorem body178 : HasBody Try.prog 178 := ⟨_, _, Try.func178, rfl, by kernel_rfl⟩
theorem ev178 (n : Nat) (x : sm178.ins.D) : evFn (find tbl) (plain (env178 n)) an178 n Try.f178 sm178 x = N.spec_Field n x.1 x.2.1 x.2.2.1 x.2.2.2.1 x.2.2.2.2 := by kernel_rfl
theorem ok178 (n : Nat) : FnOk Try.prog TT 178 (s178 n) := fn_native (an := an178) (n := n) Try.func178 rfl (by kernel_rfl) tblOk (env_plain (env_cons (ok179 n) body179 (env_cons (ok192 n) body192 env_nil))) follows (ev178 n)

-- spec_Steps
def sm157 : Sm := ⟨[.val true [I, I, (.sl 3 (.one I))], .val false [I], .val false [I]], [(false, [(I, 0)])]⟩
def an157 : An := ⟨fun _ => none,
  fun _ => none,
  fun _ => none,
  fun _ => []⟩
def s157 (n : Nat) : SmF := ⟨sm157, fun x => N.spec_Steps n x.1 x.2.1 x.2.2.1 x.2.2.2.1 x.2.2.2.2⟩
def env157 (n : Nat) : List (FuncId × SmF) := [(178, s178 n), (179, s179 n)]
theorem body157 : HasBody Try.prog 157 := ⟨_, _, Try.func157, rfl, by kernel_rfl⟩
theorem ev157 (n : Nat) (x : sm157.ins.D) : evFn (find tbl) (plain (env157 n)) an157 n Try.f157 sm157 x = N.spec_Steps n x.1 x.2.1 x.2.2.1 x.2.2.2.1 x.2.2.2.2 := by kernel_rfl
theorem ok157 (n : Nat) : FnOk Try.prog TT 157 (s157 n) := fn_native (an := an157) (n := n) Try.func157 rfl (by kernel_rfl) tblOk (env_plain (env_cons (ok178 n) body178 (env_cons (ok179 n) body179 env_nil))) follows (ev157 n)

-- spec_l12Cost
def sm108 : Sm := ⟨[.val true [I, I, (.sl 3 (.one I))], .val false [I], .val false [I]], [(false, [(I, 0)])]⟩
def an108 : An := ⟨fun _ => none,
  fun _ => none,
  fun _ => none,
  fun _ => []⟩
def s108 (n : Nat) : SmF := ⟨sm108, fun x => N.spec_l12Cost n x.1 x.2.1 x.2.2.1 x.2.2.2.1 x.2.2.2.2⟩
def env108 (n : Nat) : List (FuncId × SmF) := [(157, s157 n)]
theorem body108 : HasBody Try.prog 108 := ⟨_, _, Try.func108, rfl, by kernel_rfl⟩
theorem ev108 (n : Nat) (x : sm108.ins.D) : evFn (find tbl) (plain (env108 n)) an108 n Try.f108 sm108 x = N.spec_l12Cost n x.1 x.2.1 x.2.2.1 x.2.2.2.1 x.2.2.2.2 := by kernel_rfl
theorem ok108 (n : Nat) : FnOk Try.prog TT 108 (s108 n) := fn_native (an := an108) (n := n) Try.func108 rfl (by kernel_rfl) tblOk (env_plain (env_cons (ok157 n) body157 env_nil)) follows (ev108 n)

-- spec_CostsOk
def sm158 : Sm := ⟨[.val false [(.sl 24 (.one (.sl 3 (.one I))))]], [(false, [(.bool, 0)])]⟩
def an158 : An := ⟨fun _ => none,
  fun b => match b with
    | 0 => some ([.slot 3 I], true)
    | 2 => some ([.slot 4 I], true)
    | _ => none,
  fun _ => none,
  fun _ => []⟩
def s158 (n : Nat) : SmF := ⟨sm158, fun x => N.spec_CostsOk n x⟩
def env158 (n : Nat) : List (FuncId × SmF) := [(67, s67 n)]
theorem body158 : HasBody Try.prog 158 := ⟨_, _, Try.func158, rfl, by kernel_rfl⟩
theorem ev158 (n : Nat) (x : sm158.ins.D) : evFn (find tbl) (plain (env158 n)) an158 n Try.f158 sm158 x = N.spec_CostsOk n x := by kernel_rfl
theorem ok158 (n : Nat) : FnOk Try.prog TT 158 (s158 n) := fn_native (an := an158) (n := n) Try.func158 rfl (by kernel_rfl) tblOk (env_plain (env_cons (ok67 n) body67 env_nil)) follows (ev158 n)

-- spec_l4Grow
def sm180 : Sm := ⟨[.val false [(.sl 24 (.one (.sl 3 (.one I))))], .row false [((.sl 3 (.one I)), 2)], .row false [((.sl 3 (.one I)), 2)], .row false [((.sl 3 (.one I)), 2)], .val false [I]], []⟩
def an180 : An := ⟨fun _ => none,
  fun b => match b with
    | 0 => some ([.slot 14 I, .own 11 3 (.one I) 2 false], false)
    | 2 => some ([.slot 15 I, .own 1 3 (.one I) 2 true, .own 2 3 (.one I) 2 true, .own 11 3 (.one I) 2 false, .own 12 3 (.one I) 2 false, .own 13 4 (.one .bool) 2 false], false)
    | 4 => some ([.slot 17 I, .slot 18 I, .slot 19 I, .own 11 3 (.one I) 2 false, .own 12 3 (.one I) 2 false], false)
    | 6 => some ([.slot 21 I, .own 1 3 (.one I) 2 true, .own 2 3 (.one I) 2 true, .own 11 3 (.one I) 2 false], false)
    | 8 => some ([.slot 15 I, .own 3 3 (.one I) 2 true], false)
    | _ => none,
  fun b => match b with
    | 19 => some ([.slot 17 I, .slot 18 I, .own 11 3 (.one I) 2 false, .own 12 3 (.one I) 2 false], false)
    | 25 => some ([.own 1 3 (.one I) 2 true, .own 2 3 (.one I) 2 true, .own 11 3 (.one I) 2 false], false)
    | 57 => some ([.own 11 3 (.one I) 2 false, .own 12 3 (.one I) 2 false], false)
    | _ => none,
  fun _ => []⟩
def s180 (n : Nat) : SmF := ⟨sm180, fun x => N.spec_l4Grow n x.1 x.2.1 x.2.2.1 x.2.2.2.1 x.2.2.2.2⟩
def env180 (n : Nat) : List (FuncId × SmF) := []
theorem body180 : HasBody Try.prog 180 := ⟨_, _, Try.func180, rfl, by kernel_rfl⟩
theorem ev180 (n : Nat) (x : sm180.ins.D) : evFn (find tbl) (plain (env180 n)) an180 n Try.f180 sm180 x = N.spec_l4Grow n x.1 x.2.1 x.2.2.1 x.2.2.2.1 x.2.2.2.2 := by kernel_rfl
theorem ok180 (n : Nat) : FnOk Try.prog TT 180 (s180 n) := fn_native (an := an180) (n := n) Try.func180 rfl (by kernel_rfl) tblOk (env_plain env_nil) follows (ev180 n)

-- spec_l4Least
def sm159 : Sm := ⟨[.val false [(.sl 24 (.one (.sl 3 (.one I))))]], [(false, [(I, 0)])]⟩
def an159 : An := ⟨fun _ => none,
  fun b => match b with
    | 0 => some ([.slot 8 I, .own 5 3 (.one I) 2 false, .own 6 3 (.one I) 2 false, .own 7 3 (.one I) 2 false], false)
    | 2 => some ([.slot 9 I, .slot 10 I], false)
    | _ => none,
  fun b => match b with
    | 13 => some ([.slot 9 I], false)
    | _ => none,
  fun _ => []⟩
def s159 (n : Nat) : SmF := ⟨sm159, fun x => N.spec_l4Least n x⟩
def env159 (n : Nat) : List (FuncId × SmF) := [(180, s180 n)]
theorem body159 : HasBody Try.prog 159 := ⟨_, _, Try.func159, rfl, by kernel_rfl⟩
theorem ev159 (n : Nat) (x : sm159.ins.D) : evFn (find tbl) (plain (env159 n)) an159 n Try.f159 sm159 x = N.spec_l4Least n x := by kernel_rfl
theorem ok159 (n : Nat) : FnOk Try.prog TT 159 (s159 n) := fn_native (an := an159) (n := n) Try.func159 rfl (by kernel_rfl) tblOk (env_plain (env_cons (ok180 n) body180 env_nil)) follows (ev159 n)

-- spec_l4Without
def sm160 : Sm := ⟨[.val false [(.sl 24 (.one (.sl 3 (.one I))))], .val false [I]], [(false, [((.sl 24 (.one (.sl 3 (.one I)))), 0)])]⟩
def an160 : An := ⟨fun _ => none,
  fun b => match b with
    | 0 => some ([.own 5 24 (.one (.sl 3 (.one I))) 2 false, .slot 6 I], false)
    | _ => none,
  fun _ => none,
  fun _ => []⟩
def s160 (n : Nat) : SmF := ⟨sm160, fun x => N.spec_l4Without n x.1 x.2⟩
def env160 (n : Nat) : List (FuncId × SmF) := []
theorem body160 : HasBody Try.prog 160 := ⟨_, _, Try.func160, rfl, by kernel_rfl⟩
theorem ev160 (n : Nat) (x : sm160.ins.D) : evFn (find tbl) (plain (env160 n)) an160 n Try.f160 sm160 x = N.spec_l4Without n x.1 x.2 := by kernel_rfl
theorem ok160 (n : Nat) : FnOk Try.prog TT 160 (s160 n) := fn_native (an := an160) (n := n) Try.func160 rfl (by kernel_rfl) tblOk (env_plain env_nil) follows (ev160 n)

-- spec_Match
def sm110 : Sm := ⟨[.val false [(.sl 24 (.one (.sl 3 (.one I))))]], [(false, [((.sl 3 (.one I)), 2)]), (false, [(I, 0)])]⟩
def an110 : An := ⟨fun _ => none,
  fun b => match b with
    | 0 => some ([.own 8 3 (.one I) 2 false, .slot 9 I], false)
    | 2 => some ([.own 4 3 (.one I) 2 false, .slot 6 I, .slot 7 (.sl 24 (.one (.sl 3 (.one I)))), .own 8 3 (.one I) 2 false], false)
    | 4 => some ([.own 4 3 (.one I) 2 false, .slot 6 I, .slot 7 (.sl 24 (.one (.sl 3 (.one I)))), .own 8 3 (.one I) 2 false, .slot 10 I], false)
    | _ => none,
  fun _ => none,
  fun _ => []⟩
def s110 (n : Nat) : SmF := ⟨sm110, fun x => N.spec_Match n x⟩
def env110 (n : Nat) : List (FuncId × SmF) := [(158, s158 n), (159, s159 n), (160, s160 n)]
theorem body110 : HasBody Try.prog 110 := ⟨_, _, Try.func110, rfl, by kernel_rfl⟩
theorem ev110 (n : Nat) (x : sm110.ins.D) : evFn (find tbl) (plain (env110 n)) an110 n Try.f110 sm110 x = N.spec_Match n x := by kernel_rfl
theorem ok110 (n : Nat) : FnOk Try.prog TT 110 (s110 n) := fn_native (an := an110) (n := n) Try.func110 rfl (by kernel_rfl) tblOk (env_plain (env_cons (ok158 n) body158 (env_cons (ok159 n) body159 (env_cons (ok160 n) body160 env_nil)))) follows (ev110 n)

-- spec_Dispatch
def sm27 : Sm := ⟨[.val true [I, I, (.sl 3 (.one I))], .val true [(.sl 104 k7)], .val false [(.sl 43 k5)], .val false [(.sl 75 k4)]], [(false, [((.sl 43 k5), 2)]), (false, [((.sl 75 k4), 2)])]⟩
def an27 : An := ⟨fun _ => none,
  fun b => match b with
    | 0 => some ([.own 14 24 (.one (.sl 3 (.one I))) 2 false, .slot 15 I], false)
    | 2 => some ([.own 16 3 (.one I) 2 false, .slot 17 I], false)
    | 4 => some ([.slot 20 I, .own 10 43 k5 2 false, .own 11 75 k4 2 false], false)
    | _ => none,
  fun b => match b with
    | 19 => some ([.own 10 43 k5 2 false, .own 11 75 k4 2 false], false)
    | _ => none,
  fun _ => []⟩
def s27 (n : Nat) : SmF := ⟨sm27, fun x => N.spec_Dispatch n x.1 x.2.1 x.2.2.1 x.2.2.2.1 x.2.2.2.2.1 x.2.2.2.2.2⟩
def env27 (n : Nat) : List (FuncId × SmF) := [(30, s30 n), (31, s31 n), (32, s32 n), (106, s106 n), (107, s107 n), (108, s108 n), (109, s109 n), (110, s110 n)]
theorem body27 : HasBody Try.prog 27 := ⟨_, _, Try.func27, rfl, by kernel_rfl⟩
theorem ev27 (n : Nat) (x : sm27.ins.D) : evFn (find tbl) (plain (env27 n)) an27 n Try.f27 sm27 x = N.spec_Dispatch n x.1 x.2.1 x.2.2.1 x.2.2.2.1 x.2.2.2.2.1 x.2.2.2.2.2 := by kernel_rfl
theorem ok27 (n : Nat) : FnOk Try.prog TT 27 (s27 n) := fn_native (an := an27) (n := n) Try.func27 rfl (by kernel_rfl) tblOk (env_plain (env_cons (ok30 n) body30 (env_cons (ok31 n) body31 (env_cons (ok32 n) body32 (env_cons (ok106 n) body106 (env_cons (ok107 n) body107 (env_cons (ok108 n) body108 (env_cons (ok109 n) body109 (env_cons (ok110 n) body110 env_nil))))))))) follows (ev27 n)

-- impl_copyCrew
def sm99 : Sm := ⟨[.val false [(.sl 43 k5)]], [(false, [((.sl 43 k5), 2)])]⟩
def an99 : An := ⟨fun _ => none,
  fun _ => none,
  fun _ => none,
  fun _ => []⟩
def s99 (n : Nat) : SmF := ⟨sm99, fun x => N.impl_copyCrew x⟩
def env99 (n : Nat) : List (FuncId × SmF) := []
theorem body99 : HasBody Try.prog 99 := ⟨_, _, Try.func99, rfl, by kernel_rfl⟩
theorem ev99 (n : Nat) (x : sm99.ins.D) : evFn (find tbl) (plain (env99 n)) an99 n Try.f99 sm99 x = N.impl_copyCrew x := by kernel_rfl
theorem ok99 (n : Nat) : FnOk Try.prog TT 99 (s99 n) := fn_native (an := an99) (n := n) Try.func99 rfl (by kernel_rfl) tblOk (env_plain env_nil) follows (ev99 n)

-- impl_copyTasks
def sm100 : Sm := ⟨[.val false [(.sl 75 k4)]], [(false, [((.sl 75 k4), 2)])]⟩
def an100 : An := ⟨fun _ => none,
  fun _ => none,
  fun _ => none,
  fun _ => []⟩
def s100 (n : Nat) : SmF := ⟨sm100, fun x => N.impl_copyTasks x⟩
def env100 (n : Nat) : List (FuncId × SmF) := []
theorem body100 : HasBody Try.prog 100 := ⟨_, _, Try.func100, rfl, by kernel_rfl⟩
theorem ev100 (n : Nat) (x : sm100.ins.D) : evFn (find tbl) (plain (env100 n)) an100 n Try.f100 sm100 x = N.impl_copyTasks x := by kernel_rfl
theorem ok100 (n : Nat) : FnOk Try.prog TT 100 (s100 n) := fn_native (an := an100) (n := n) Try.func100 rfl (by kernel_rfl) tblOk (env_plain env_nil) follows (ev100 n)

-- impl_in
def sm71 : Sm := ⟨[.val false [I], .val false [I], .val false [I]], [(false, [(.bool, 0)])]⟩
def an71 : An := ⟨fun _ => none,
  fun _ => none,
  fun _ => none,
  fun _ => []⟩
def s71 (n : Nat) : SmF := ⟨sm71, fun x => N.impl_in x.1 x.2.1 x.2.2⟩
def env71 (n : Nat) : List (FuncId × SmF) := []
theorem body71 : HasBody Try.prog 71 := ⟨_, _, Try.func71, rfl, by kernel_rfl⟩
theorem ev71 (n : Nat) (x : sm71.ins.D) : evFn (find tbl) (plain (env71 n)) an71 n Try.f71 sm71 x = N.impl_in x.1 x.2.1 x.2.2 := by kernel_rfl
theorem ok71 (n : Nat) : FnOk Try.prog TT 71 (s71 n) := fn_native (an := an71) (n := n) Try.func71 rfl (by kernel_rfl) tblOk (env_plain env_nil) follows (ev71 n)

-- impl_FloorOk
def sm59 : Sm := ⟨[.val true [I, I, (.sl 3 (.one I))]], [(false, [(.bool, 0)])]⟩
def an59 : An := ⟨fun _ => none,
  fun b => match b with
    | 0 => some ([.slot 29 I], true)
    | _ => none,
  fun _ => none,
  fun _ => []⟩
def s59 (n : Nat) : SmF := ⟨sm59, fun x => N.impl_FloorOk n x.1 x.2.1 x.2.2⟩
def env59 (n : Nat) : List (FuncId × SmF) := [(71, s71 n)]
theorem body59 : HasBody Try.prog 59 := ⟨_, _, Try.func59, rfl, by kernel_rfl⟩
theorem ev59 (n : Nat) (x : sm59.ins.D) : evFn (find tbl) (plain (env59 n)) an59 n Try.f59 sm59 x = N.impl_FloorOk n x.1 x.2.1 x.2.2 := by kernel_rfl
theorem ok59 (n : Nat) : FnOk Try.prog TT 59 (s59 n) := fn_native (an := an59) (n := n) Try.func59 rfl (by kernel_rfl) tblOk (env_plain (env_cons (ok71 n) body71 env_nil)) follows (ev59 n)

-- impl_podOk
def sm93 : Sm := ⟨[.val true [I, I, (.sl 109 k2)]], [(false, [(.bool, 0)])]⟩
def an93 : An := ⟨fun _ => none,
  fun b => match b with
    | 0 => some ([.slot 24 I], true)
    | _ => none,
  fun _ => none,
  fun _ => []⟩
def s93 (n : Nat) : SmF := ⟨sm93, fun x => N.impl_podOk n x.1 x.2.1 x.2.2⟩
def env93 (n : Nat) : List (FuncId × SmF) := [(71, s71 n)]
theorem body93 : HasBody Try.prog 93 := ⟨_, _, Try.func93, rfl, by kernel_rfl⟩
theorem ev93 (n : Nat) (x : sm93.ins.D) : evFn (find tbl) (plain (env93 n)) an93 n Try.f93 sm93 x = N.impl_podOk n x.1 x.2.1 x.2.2 := by kernel_rfl
theorem ok93 (n : Nat) : FnOk Try.prog TT 93 (s93 n) := fn_native (an := an93) (n := n) Try.func93 rfl (by kernel_rfl) tblOk (env_plain (env_cons (ok71 n) body71 env_nil)) follows (ev93 n)

-- impl_StockOk
def sm21 : Sm := ⟨[.val true [(.sl 104 k7)]], [(false, [(.bool, 0)])]⟩
def an21 : An := ⟨fun _ => none,
  fun b => match b with
    | 0 => some ([.slot 10 I], true)
    | 2 => some ([.slot 39 I], true)
    | _ => none,
  fun _ => none,
  fun _ => []⟩
def s21 (n : Nat) : SmF := ⟨sm21, fun x => N.impl_StockOk n x⟩
def env21 (n : Nat) : List (FuncId × SmF) := [(93, s93 n)]
theorem body21 : HasBody Try.prog 21 := ⟨_, _, Try.func21, rfl, by kernel_rfl⟩
theorem ev21 (n : Nat) (x : sm21.ins.D) : evFn (find tbl) (plain (env21 n)) an21 n Try.f21 sm21 x = N.impl_StockOk n x := by kernel_rfl
theorem ok21 (n : Nat) : FnOk Try.prog TT 21 (s21 n) := fn_native (an := an21) (n := n) Try.func21 rfl (by kernel_rfl) tblOk (env_plain (env_cons (ok93 n) body93 env_nil)) follows (ev21 n)

-- impl_isCell
def sm130 : Sm := ⟨[.val true [I, I, (.sl 3 (.one I))], .val false [I]], [(false, [(.bool, 0)])]⟩
def an130 : An := ⟨fun _ => none,
  fun _ => none,
  fun _ => none,
  fun _ => []⟩
def s130 (n : Nat) : SmF := ⟨sm130, fun x => N.impl_isCell x.1 x.2.1 x.2.2.1 x.2.2.2⟩
def env130 (n : Nat) : List (FuncId × SmF) := [(71, s71 n)]
theorem body130 : HasBody Try.prog 130 := ⟨_, _, Try.func130, rfl, by kernel_rfl⟩
theorem ev130 (n : Nat) (x : sm130.ins.D) : evFn (find tbl) (plain (env130 n)) an130 n Try.f130 sm130 x = N.impl_isCell x.1 x.2.1 x.2.2.1 x.2.2.2 := by kernel_rfl
theorem ok130 (n : Nat) : FnOk Try.prog TT 130 (s130 n) := fn_native (an := an130) (n := n) Try.func130 rfl (by kernel_rfl) tblOk (env_plain (env_cons (ok71 n) body71 env_nil)) follows (ev130 n)

-- impl_KindAt
def sm61 : Sm := ⟨[.val true [I, I, (.sl 3 (.one I))], .val false [I]], [(false, [(I, 0)])]⟩
def an61 : An := ⟨fun _ => none,
  fun _ => none,
  fun _ => none,
  fun _ => []⟩
def s61 (n : Nat) : SmF := ⟨sm61, fun x => N.impl_KindAt n x.1 x.2.1 x.2.2.1 x.2.2.2⟩
def env61 (n : Nat) : List (FuncId × SmF) := [(59, s59 n), (130, s130 n)]
theorem body61 : HasBody Try.prog 61 := ⟨_, _, Try.func61, rfl, by kernel_rfl⟩
theorem ev61 (n : Nat) (x : sm61.ins.D) : evFn (find tbl) (plain (env61 n)) an61 n Try.f61 sm61 x = N.impl_KindAt n x.1 x.2.1 x.2.2.1 x.2.2.2 := by kernel_rfl
theorem ok61 (n : Nat) : FnOk Try.prog TT 61 (s61 n) := fn_native (an := an61) (n := n) Try.func61 rfl (by kernel_rfl) tblOk (env_plain (env_cons (ok59 n) body59 (env_cons (ok130 n) body130 env_nil))) follows (ev61 n)

-- impl_standsOk
def sm113 : Sm := ⟨[.val true [I, I, (.sl 3 (.one I))], .val true [I, I, I, .bool, I]], [(false, [(.bool, 0)])]⟩
def an113 : An := ⟨fun _ => none,
  fun _ => none,
  fun _ => none,
  fun _ => []⟩
def s113 (n : Nat) : SmF := ⟨sm113, fun x => N.impl_standsOk n x.1 x.2.1 x.2.2.1 x.2.2.2.1 x.2.2.2.2.1 x.2.2.2.2.2.1 x.2.2.2.2.2.2.1 x.2.2.2.2.2.2.2⟩
def env113 (n : Nat) : List (FuncId × SmF) := [(61, s61 n)]
theorem body113 : HasBody Try.prog 113 := ⟨_, _, Try.func113, rfl, by kernel_rfl⟩
theorem ev113 (n : Nat) (x : sm113.ins.D) : evFn (find tbl) (plain (env113 n)) an113 n Try.f113 sm113 x = N.impl_standsOk n x.1 x.2.1 x.2.2.1 x.2.2.2.1 x.2.2.2.2.1 x.2.2.2.2.2.1 x.2.2.2.2.2.2.1 x.2.2.2.2.2.2.2 := by kernel_rfl
theorem ok113 (n : Nat) : FnOk Try.prog TT 113 (s113 n) := fn_native (an := an113) (n := n) Try.func113 rfl (by kernel_rfl) tblOk (env_plain (env_cons (ok61 n) body61 env_nil)) follows (ev113 n)

-- impl_CrewOk
def sm34 : Sm := ⟨[.val true [I, I, (.sl 3 (.one I))], .val false [(.sl 43 k5)]], [(false, [(.bool, 0)])]⟩
def an34 : An := ⟨fun _ => none,
  fun b => match b with
    | 0 => some ([.slot 19 I], true)
    | 2 => some ([.slot 59 I], true)
    | _ => none,
  fun _ => none,
  fun _ => []⟩
def s34 (n : Nat) : SmF := ⟨sm34, fun x => N.impl_CrewOk n x.1 x.2.1 x.2.2.1 x.2.2.2⟩
def env34 (n : Nat) : List (FuncId × SmF) := [(59, s59 n), (71, s71 n), (113, s113 n)]
theorem body34 : HasBody Try.prog 34 := ⟨_, _, Try.func34, rfl, by kernel_rfl⟩
theorem ev34 (n : Nat) (x : sm34.ins.D) : evFn (find tbl) (plain (env34 n)) an34 n Try.f34 sm34 x = N.impl_CrewOk n x.1 x.2.1 x.2.2.1 x.2.2.2 := by kernel_rfl
theorem ok34 (n : Nat) : FnOk Try.prog TT 34 (s34 n) := fn_native (an := an34) (n := n) Try.func34 rfl (by kernel_rfl) tblOk (env_plain (env_cons (ok59 n) body59 (env_cons (ok71 n) body71 (env_cons (ok113 n) body113 env_nil)))) follows (ev34 n)

-- impl_TasksOk
def sm33 : Sm := ⟨[.val false [(.sl 75 k4)]], [(false, [(.bool, 0)])]⟩
def an33 : An := ⟨fun _ => none,
  fun b => match b with
    | 0 => some ([.slot 10 I], true)
    | 2 => some ([.slot 51 I], true)
    | _ => none,
  fun _ => none,
  fun _ => []⟩
def s33 (n : Nat) : SmF := ⟨sm33, fun x => N.impl_TasksOk n x⟩
def env33 (n : Nat) : List (FuncId × SmF) := [(71, s71 n)]
theorem body33 : HasBody Try.prog 33 := ⟨_, _, Try.func33, rfl, by kernel_rfl⟩
theorem ev33 (n : Nat) (x : sm33.ins.D) : evFn (find tbl) (plain (env33 n)) an33 n Try.f33 sm33 x = N.impl_TasksOk n x := by kernel_rfl
theorem ok33 (n : Nat) : FnOk Try.prog TT 33 (s33 n) := fn_native (an := an33) (n := n) Try.func33 rfl (by kernel_rfl) tblOk (env_plain (env_cons (ok71 n) body71 env_nil)) follows (ev33 n)

-- impl_idle
def sm101 : Sm := ⟨[.val false [(.sl 43 k5)], .val false [(.sl 75 k4)]], [(false, [((.sl 3 (.one I)), 2)])]⟩
def an101 : An := ⟨fun _ => none,
  fun b => match b with
    | 0 => some ([.own 5 3 (.one I) 2 false, .slot 13 I], false)
    | 2 => some ([.slot 8 .bool, .slot 33 I], false)
    | _ => none,
  fun b => match b with
    | 7 => some ([.own 5 3 (.one I) 2 false], false)
    | _ => none,
  fun _ => []⟩
def s101 (n : Nat) : SmF := ⟨sm101, fun x => N.impl_idle n x.1 x.2⟩
def env101 (n : Nat) : List (FuncId × SmF) := []
theorem body101 : HasBody Try.prog 101 := ⟨_, _, Try.func101, rfl, by kernel_rfl⟩
theorem ev101 (n : Nat) (x : sm101.ins.D) : evFn (find tbl) (plain (env101 n)) an101 n Try.f101 sm101 x = N.impl_idle n x.1 x.2 := by kernel_rfl
theorem ok101 (n : Nat) : FnOk Try.prog TT 101 (s101 n) := fn_native (an := an101) (n := n) Try.func101 rfl (by kernel_rfl) tblOk (env_plain env_nil) follows (ev101 n)

-- impl_podAt
def sm104 : Sm := ⟨[.val true [(.sl 104 k7)], .val false [I]], [(false, [(I, 0)])]⟩
def an104 : An := ⟨fun _ => none,
  fun b => match b with
    | 0 => some ([.slot 10 I], true)
    | _ => none,
  fun _ => none,
  fun _ => []⟩
def s104 (n : Nat) : SmF := ⟨sm104, fun x => N.impl_podAt n x.1 x.2⟩
def env104 (n : Nat) : List (FuncId × SmF) := []
theorem body104 : HasBody Try.prog 104 := ⟨_, _, Try.func104, rfl, by kernel_rfl⟩
theorem ev104 (n : Nat) (x : sm104.ins.D) : evFn (find tbl) (plain (env104 n)) an104 n Try.f104 sm104 x = N.impl_podAt n x.1 x.2 := by kernel_rfl
theorem ok104 (n : Nat) : FnOk Try.prog TT 104 (s104 n) := fn_native (an := an104) (n := n) Try.func104 rfl (by kernel_rfl) tblOk (env_plain env_nil) follows (ev104 n)

-- impl_hasInt
def sm133 : Sm := ⟨[.val false [(.sl 3 (.one I))], .val false [I]], [(false, [(.bool, 0)])]⟩
def an133 : An := ⟨fun _ => none,
  fun b => match b with
    | 0 => some ([.slot 9 I], true)
    | _ => none,
  fun _ => none,
  fun _ => []⟩
def s133 (n : Nat) : SmF := ⟨sm133, fun x => N.impl_hasInt n x.1 x.2⟩
def env133 (n : Nat) : List (FuncId × SmF) := []
theorem body133 : HasBody Try.prog 133 := ⟨_, _, Try.func133, rfl, by kernel_rfl⟩
theorem ev133 (n : Nat) (x : sm133.ins.D) : evFn (find tbl) (plain (env133 n)) an133 n Try.f133 sm133 x = N.impl_hasInt n x.1 x.2 := by kernel_rfl
theorem ok133 (n : Nat) : FnOk Try.prog TT 133 (s133 n) := fn_native (an := an133) (n := n) Try.func133 rfl (by kernel_rfl) tblOk (env_plain env_nil) follows (ev133 n)

-- impl_ready
def sm102 : Sm := ⟨[.val true [(.sl 104 k7)], .val false [(.sl 75 k4)], .val false [I]], [(false, [((.sl 3 (.one I)), 2)])]⟩
def an102 : An := ⟨fun _ => none,
  fun b => match b with
    | 0 => some ([.own 8 3 (.one I) 2 false, .slot 15 I], false)
    | 2 => some ([.own 7 3 (.one I) 2 false, .own 8 3 (.one I) 2 false, .slot 30 I], false)
    | _ => none,
  fun b => match b with
    | 7 => some ([.own 8 3 (.one I) 2 false], false)
    | 13 => some ([.own 7 3 (.one I) 2 false, .own 8 3 (.one I) 2 false], false)
    | _ => none,
  fun _ => []⟩
def s102 (n : Nat) : SmF := ⟨sm102, fun x => N.impl_ready n x.1 x.2.1 x.2.2⟩
def env102 (n : Nat) : List (FuncId × SmF) := [(104, s104 n), (133, s133 n)]
theorem body102 : HasBody Try.prog 102 := ⟨_, _, Try.func102, rfl, by kernel_rfl⟩
theorem ev102 (n : Nat) (x : sm102.ins.D) : evFn (find tbl) (plain (env102 n)) an102 n Try.f102 sm102 x = N.impl_ready n x.1 x.2.1 x.2.2 := by kernel_rfl
theorem ok102 (n : Nat) : FnOk Try.prog TT 102 (s102 n) := fn_native (an := an102) (n := n) Try.func102 rfl (by kernel_rfl) tblOk (env_plain (env_cons (ok104 n) body104 (env_cons (ok133 n) body133 env_nil))) follows (ev102 n)

-- impl_beside
def sm191 : Sm := ⟨[.val true [I, I, (.sl 3 (.one I))], .val false [I]], [(false, [((.sl 3 (.one I)), 2)])]⟩
def an191 : An := ⟨fun _ => none,
  fun _ => none,
  fun b => match b with
    | 12 => some ([.own 5 3 (.one I) 2 false], false)
    | 18 => some ([.own 5 3 (.one I) 2 false], false)
    | 24 => some ([.own 5 3 (.one I) 2 false], false)
    | 30 => some ([.own 5 3 (.one I) 2 false], false)
    | _ => none,
  fun _ => []⟩
def s191 (n : Nat) : SmF := ⟨sm191, fun x => N.impl_beside x.1 x.2.1 x.2.2.1 x.2.2.2⟩
def env191 (n : Nat) : List (FuncId × SmF) := []
theorem body191 : HasBody Try.prog 191 := ⟨_, _, Try.func191, rfl, by kernel_rfl⟩
theorem ev191 (n : Nat) (x : sm191.ins.D) : evFn (find tbl) (plain (env191 n)) an191 n Try.f191 sm191 x = N.impl_beside x.1 x.2.1 x.2.2.1 x.2.2.2 := by kernel_rfl
theorem ok191 (n : Nat) : FnOk Try.prog TT 191 (s191 n) := fn_native (an := an191) (n := n) Try.func191 rfl (by kernel_rfl) tblOk (env_plain env_nil) follows (ev191 n)

-- impl_near
def sm177 : Sm := ⟨[.val true [I, I, (.sl 3 (.one I))], .val false [I], .val false [.bool]], [(false, [((.sl 3 (.one I)), 2)])]⟩
def an177 : An := ⟨fun _ => none,
  fun b => match b with
    | 0 => some ([.own 7 3 (.one I) 2 false, .slot 15 I], false)
    | _ => none,
  fun b => match b with
    | 7 => some ([.own 7 3 (.one I) 2 false], false)
    | _ => none,
  fun _ => []⟩
def s177 (n : Nat) : SmF := ⟨sm177, fun x => N.impl_near n x.1 x.2.1 x.2.2.1 x.2.2.2.1 x.2.2.2.2⟩
def env177 (n : Nat) : List (FuncId × SmF) := [(191, s191 n)]
theorem body177 : HasBody Try.prog 177 := ⟨_, _, Try.func177, rfl, by kernel_rfl⟩
theorem ev177 (n : Nat) (x : sm177.ins.D) : evFn (find tbl) (plain (env177 n)) an177 n Try.f177 sm177 x = N.impl_near n x.1 x.2.1 x.2.2.1 x.2.2.2.1 x.2.2.2.2 := by kernel_rfl
theorem ok177 (n : Nat) : FnOk Try.prog TT 177 (s177 n) := fn_native (an := an177) (n := n) Try.func177 rfl (by kernel_rfl) tblOk (env_plain (env_cons (ok191 n) body191 env_nil)) follows (ev177 n)

-- impl_field
def sm153 : Sm := ⟨[.val true [I, I, (.sl 3 (.one I))], .val false [I], .val false [.bool]], [(false, [((.sl 3 (.one I)), 2)])]⟩
def an153 : An := ⟨fun _ => none,
  fun b => match b with
    | 0 => some ([.slot 19 I, .own 7 3 (.one I) 2 false], false)
    | 2 => some ([.own 9 3 (.one I) 2 false, .own 7 3 (.one I) 2 false], false)
    | 4 => some ([.own 9 3 (.one I) 2 false, .slot 57 I, .own 7 3 (.one I) 2 false], false)
    | _ => none,
  fun b => match b with
    | 19 => some ([.own 9 3 (.one I) 2 false, .own 7 3 (.one I) 2 false], false)
    | _ => none,
  fun _ => []⟩
def s153 (n : Nat) : SmF := ⟨sm153, fun x => N.impl_field n x.1 x.2.1 x.2.2.1 x.2.2.2.1 x.2.2.2.2⟩
def env153 (n : Nat) : List (FuncId × SmF) := [(177, s177 n)]
theorem body153 : HasBody Try.prog 153 := ⟨_, _, Try.func153, rfl, by kernel_rfl⟩
theorem ev153 (n : Nat) (x : sm153.ins.D) : evFn (find tbl) (plain (env153 n)) an153 n Try.f153 sm153 x = N.impl_field n x.1 x.2.1 x.2.2.1 x.2.2.2.1 x.2.2.2.2 := by kernel_rfl
theorem ok153 (n : Nat) : FnOk Try.prog TT 153 (s153 n) := fn_native (an := an153) (n := n) Try.func153 rfl (by kernel_rfl) tblOk (env_plain (env_cons (ok177 n) body177 env_nil)) follows (ev153 n)

-- impl_Steps
def sm103 : Sm := ⟨[.val true [I, I, (.sl 3 (.one I))], .val false [I], .val false [I]], [(false, [(I, 0)])]⟩
def an103 : An := ⟨fun _ => none,
  fun _ => none,
  fun _ => none,
  fun _ => []⟩
def s103 (n : Nat) : SmF := ⟨sm103, fun x => N.impl_Steps n x.1 x.2.1 x.2.2.1 x.2.2.2.1 x.2.2.2.2⟩
def env103 (n : Nat) : List (FuncId × SmF) := [(61, s61 n), (130, s130 n), (153, s153 n)]
theorem body103 : HasBody Try.prog 103 := ⟨_, _, Try.func103, rfl, by kernel_rfl⟩
theorem ev103 (n : Nat) (x : sm103.ins.D) : evFn (find tbl) (plain (env103 n)) an103 n Try.f103 sm103 x = N.impl_Steps n x.1 x.2.1 x.2.2.1 x.2.2.2.1 x.2.2.2.2 := by kernel_rfl
theorem ok103 (n : Nat) : FnOk Try.prog TT 103 (s103 n) := fn_native (an := an103) (n := n) Try.func103 rfl (by kernel_rfl) tblOk (env_plain (env_cons (ok61 n) body61 (env_cons (ok130 n) body130 (env_cons (ok153 n) body153 env_nil)))) follows (ev103 n)

-- impl_CostsOk
def sm154 : Sm := ⟨[.val false [(.sl 24 (.one (.sl 3 (.one I))))]], [(false, [(.bool, 0)])]⟩
def an154 : An := ⟨fun _ => none,
  fun b => match b with
    | 0 => some ([.slot 12 I], true)
    | 2 => some ([.slot 33 I], true)
    | _ => none,
  fun _ => none,
  fun _ => []⟩
def s154 (n : Nat) : SmF := ⟨sm154, fun x => N.impl_CostsOk n x⟩
def env154 (n : Nat) : List (FuncId × SmF) := [(71, s71 n)]
theorem body154 : HasBody Try.prog 154 := ⟨_, _, Try.func154, rfl, by kernel_rfl⟩
theorem ev154 (n : Nat) (x : sm154.ins.D) : evFn (find tbl) (plain (env154 n)) an154 n Try.f154 sm154 x = N.impl_CostsOk n x := by kernel_rfl
theorem ok154 (n : Nat) : FnOk Try.prog TT 154 (s154 n) := fn_native (an := an154) (n := n) Try.func154 rfl (by kernel_rfl) tblOk (env_plain (env_cons (ok71 n) body71 env_nil)) follows (ev154 n)

-- impl_least
def sm155 : Sm := ⟨[.val false [(.sl 24 (.one (.sl 3 (.one I))))]], [(false, [((.sl 24 (.one (.sl 3 (.one I)))), 2)])]⟩
def an155 : An := ⟨fun _ => none,
  fun b => match b with
    | 0 => some ([.slot 5 I, .own 4 24 (.one (.sl 3 (.one I))) 2 false], false)
    | 2 => some ([.slot 45 I, .own 4 24 (.one (.sl 3 (.one I))) 2 false], false)
    | 4 => some ([.slot 55 I, .own 4 24 (.one (.sl 3 (.one I))) 2 false], false)
    | _ => none,
  fun b => match b with
    | 9 => some ([.slot 3 I], false)
    | 19 => some ([.own 4 24 (.one (.sl 3 (.one I))) 2 false], false)
    | _ => none,
  fun _ => []⟩
def s155 (n : Nat) : SmF := ⟨sm155, fun x => N.impl_least n x⟩
def env155 (n : Nat) : List (FuncId × SmF) := []
theorem body155 : HasBody Try.prog 155 := ⟨_, _, Try.func155, rfl, by kernel_rfl⟩
theorem ev155 (n : Nat) (x : sm155.ins.D) : evFn (find tbl) (plain (env155 n)) an155 n Try.f155 sm155 x = N.impl_least n x := by kernel_rfl
theorem ok155 (n : Nat) : FnOk Try.prog TT 155 (s155 n) := fn_native (an := an155) (n := n) Try.func155 rfl (by kernel_rfl) tblOk (env_plain env_nil) follows (ev155 n)

-- impl_Match
def sm105 : Sm := ⟨[.val false [(.sl 24 (.one (.sl 3 (.one I))))]], [(false, [((.sl 3 (.one I)), 2)]), (false, [(I, 0)])]⟩
def an105 : An := ⟨fun _ => none,
  fun b => match b with
    | 0 => some ([.own 5 3 (.one I) 2 false, .slot 6 I, .slot 17 I], false)
    | 2 => some ([.own 5 3 (.one I) 2 false, .slot 6 I, .slot 24 I], false)
    | _ => none,
  fun _ => none,
  fun _ => []⟩
def s105 (n : Nat) : SmF := ⟨sm105, fun x => N.impl_Match n x⟩
def env105 (n : Nat) : List (FuncId × SmF) := [(154, s154 n), (155, s155 n)]
theorem body105 : HasBody Try.prog 105 := ⟨_, _, Try.func105, rfl, by kernel_rfl⟩
theorem ev105 (n : Nat) (x : sm105.ins.D) : evFn (find tbl) (plain (env105 n)) an105 n Try.f105 sm105 x = N.impl_Match n x := by kernel_rfl
theorem ok105 (n : Nat) : FnOk Try.prog TT 105 (s105 n) := fn_native (an := an105) (n := n) Try.func105 rfl (by kernel_rfl) tblOk (env_plain (env_cons (ok154 n) body154 (env_cons (ok155 n) body155 env_nil))) follows (ev105 n)

-- impl_Dispatch
def sm26 : Sm := ⟨[.val true [I, I, (.sl 3 (.one I))], .val true [(.sl 104 k7)], .val false [(.sl 43 k5)], .val false [(.sl 75 k4)]], [(false, [((.sl 43 k5), 2)]), (false, [((.sl 75 k4), 2)])]⟩
def an26 : An := ⟨fun _ => none,
  fun b => match b with
    | 0 => some ([.own 14 24 (.one (.sl 3 (.one I))) 2 false, .slot 62 I], false)
    | 2 => some ([.own 17 3 (.one I) 2 false, .slot 68 I], false)
    | 4 => some ([.slot 110 I, .own 10 43 k5 2 false, .own 11 75 k4 2 false], false)
    | _ => none,
  fun b => match b with
    | 19 => some ([.own 10 43 k5 2 false, .own 11 75 k4 2 false], false)
    | 48 => some ([.slot 20 I], false)
    | _ => none,
  fun _ => []⟩
def s26 (n : Nat) : SmF := ⟨sm26, fun x => N.impl_Dispatch n x.1 x.2.1 x.2.2.1 x.2.2.2.1 x.2.2.2.2.1 x.2.2.2.2.2⟩
def env26 (n : Nat) : List (FuncId × SmF) := [(21, s21 n), (33, s33 n), (34, s34 n), (59, s59 n), (99, s99 n), (100, s100 n), (101, s101 n), (102, s102 n), (103, s103 n), (104, s104 n), (105, s105 n)]
theorem body26 : HasBody Try.prog 26 := ⟨_, _, Try.func26, rfl, by kernel_rfl⟩
theorem ev26 (n : Nat) (x : sm26.ins.D) : evFn (find tbl) (plain (env26 n)) an26 n Try.f26 sm26 x = N.impl_Dispatch n x.1 x.2.1 x.2.2.1 x.2.2.2.1 x.2.2.2.2.1 x.2.2.2.2.2 := by kernel_rfl
theorem ok26 (n : Nat) : FnOk Try.prog TT 26 (s26 n) := fn_native (an := an26) (n := n) Try.func26 rfl (by kernel_rfl) tblOk (env_plain (env_cons (ok21 n) body21 (env_cons (ok33 n) body33 (env_cons (ok34 n) body34 (env_cons (ok59 n) body59 (env_cons (ok99 n) body99 (env_cons (ok100 n) body100 (env_cons (ok101 n) body101 (env_cons (ok102 n) body102 (env_cons (ok103 n) body103 (env_cons (ok104 n) body104 (env_cons (ok105 n) body105 env_nil)))))))))))) follows (ev26 n)

-- laws_eqRobot
def sm120 : Sm := ⟨[.val true [I, I, I, .bool, I], .val true [I, I, I, .bool, I]], [(false, [(.bool, 0)])]⟩
def an120 : An := ⟨fun _ => none,
  fun _ => none,
  fun _ => none,
  fun _ => []⟩
def s120 (n : Nat) : SmF := ⟨sm120, fun x => N.laws_eqRobot x.1 x.2.1 x.2.2.1 x.2.2.2.1 x.2.2.2.2.1 x.2.2.2.2.2.1 x.2.2.2.2.2.2.1 x.2.2.2.2.2.2.2.1 x.2.2.2.2.2.2.2.2.1 x.2.2.2.2.2.2.2.2.2⟩
def env120 (n : Nat) : List (FuncId × SmF) := []
theorem body120 : HasBody Try.prog 120 := ⟨_, _, Try.func120, rfl, by kernel_rfl⟩
theorem ev120 (n : Nat) (x : sm120.ins.D) : evFn (find tbl) (plain (env120 n)) an120 n Try.f120 sm120 x = N.laws_eqRobot x.1 x.2.1 x.2.2.1 x.2.2.2.1 x.2.2.2.2.1 x.2.2.2.2.2.1 x.2.2.2.2.2.2.1 x.2.2.2.2.2.2.2.1 x.2.2.2.2.2.2.2.2.1 x.2.2.2.2.2.2.2.2.2 := by kernel_rfl
theorem ok120 (n : Nat) : FnOk Try.prog TT 120 (s120 n) := fn_native (an := an120) (n := n) Try.func120 rfl (by kernel_rfl) tblOk (env_plain env_nil) follows (ev120 n)
end Go.Proofs.Ytglbgceejloiaaa.Ev
