/- Tables of types; summaries of the functions. Conditions: none. -/
import Derived.Test.YtcilnijdhaidjaaLib3
import Derived.Test.YtcilnijdhaidjaaFnExactTasksOfNat
import Derived.Test.YtcilnijdhaidjaaProg
import Derived.KernelRfl
namespace Go.Proofs.Ytcilnijdhaidjaa.Ev
open Go Go.Ev Go.Proofs
set_option linter.unusedVariables false
set_option maxRecDepth 100000

abbrev I : L := .int .i64
def k0 : Ls := (.cons .str (.one (.int .u64)))
def k1 : Ls := (.cons I (.one I))
def k2 : Ls := (.cons I (.cons I (.one I)))
def k3 : Ls := (.cons .bool (.cons I (.one I)))
def k4 : Ls := (.cons I (.cons I (.cons .bool (.one (.int .u8)))))
def k5 : Ls := (.cons I (.cons I (.cons I (.one I))))
def k6 : Ls := (.cons I (.cons I (.cons I (.cons .bool (.one I)))))
def k7 : Ls := (.cons I (.cons I (.one (.sl 3 (.one I)))))
def k8 : Ls := (.cons I (.cons I (.one (.sl 175 k2))))
def k9 : Ls := (.cons I (.cons I (.one (.sl 195 k2))))
def k10 : Ls := (.cons I (.cons I (.cons (.sl 149 k1) (.cons (.sl 151 k2) (.one I)))))
def k11 : Ls := (.cons I (.cons I (.cons (.sl 147 k1) (.cons (.sl 102 k2) (.one I)))))
def k12 : Ls := (.cons (.sl 3 (.one I)) (.cons I (.cons .bool (.cons I (.cons I (.cons I (.cons (.sl 3 (.one I)) (.one (.sl 127 k3)))))))))
def k13 : Ls := (.cons (.sl 3 (.one I)) (.cons I (.cons .bool (.cons I (.cons I (.cons I (.cons (.sl 3 (.one I)) (.one (.sl 156 k3)))))))))
def k14 : Ls := (.cons I (.one (.sl 33 k10)))
def k15 : Ls := (.cons I (.one (.sl 39 k11)))
def k16 : Ls := (.cons I (.cons I (.cons (.sl 3 (.one I)) (.cons (.sl 185 k9) (.cons I (.cons (.sl 33 k10) (.cons (.sl 165 k6) (.cons (.sl 167 k5) (.cons (.sl 3 (.one I)) (.cons (.sl 3 (.one I)) (.one I)))))))))))
def k17 : Ls := (.cons I (.cons I (.cons (.sl 3 (.one I)) (.cons (.sl 179 k8) (.cons I (.cons (.sl 39 k11) (.cons (.sl 135 k6) (.cons (.sl 110 k5) (.cons (.sl 3 (.one I)) (.cons (.sl 3 (.one I)) (.one I)))))))))))
def tbl : List (Nat × Ty) := [
  (3, ⟨false, (.one I), []⟩),
  (4, ⟨false, (.one .bool), []⟩),
  (22, ⟨false, (.one (.sl 3 (.one I))), []⟩),
  (30, ⟨false, (.one (.sl 149 k1)), []⟩),
  (31, ⟨false, (.one (.sl 151 k2)), []⟩),
  (33, ⟨true, k10, [(0, 3), (1, 3), (2, 30), (3, 31), (4, 3)]⟩),
  (35, ⟨false, (.one (.sl 102 k2)), []⟩),
  (37, ⟨false, (.one (.sl 147 k1)), []⟩),
  (39, ⟨true, k11, [(0, 3), (1, 3), (2, 37), (3, 35), (4, 3)]⟩),
  (46, ⟨false, (.one (.sl 110 k5)), []⟩),
  (102, ⟨true, k2, [(0, 3), (1, 3), (2, 3)]⟩),
  (110, ⟨true, k5, [(0, 3), (1, 3), (2, 3), (3, 3)]⟩),
  (147, ⟨true, k1, [(0, 3), (1, 3)]⟩),
  (149, ⟨true, k1, [(0, 3), (1, 3)]⟩),
  (151, ⟨true, k2, [(0, 3), (1, 3), (2, 3)]⟩)]
theorem tblOk : tbl.all (fun p => tyB Try.prog p.1 p.2) = true := by kernel_rfl
theorem follows : Try.prog.follows .mixedOrders = true := by kernel_rfl
-- laws_szItemS
def sm62 : Sm := ⟨[.val false [(.sl 149 k1)], .val false [I]], [(false, [(I, 0)])]⟩
def an62 : An := ⟨fun _ => none,
  fun _ => none,
  fun _ => none⟩
def s62 (n : Nat) : SmF := ⟨sm62, fun x => N.laws_szItemS x.1 x.2⟩
def env62 (n : Nat) : List (FuncId × SmF) := []
theorem ev62 (n : Nat) (x : sm62.ins.D) : evFn (find tbl) (find (env62 n)) an62 n Try.f62 sm62 x = N.laws_szItemS x.1 x.2 := by kernel_rfl
theorem ok62 (n : Nat) : FnOk Try.prog 62 (s62 n) := fn_native (an := an62) (n := n) Try.func62 rfl (by kernel_rfl) tblOk env_nil follows (ev62 n)
theorem body62 : HasBody Try.prog 62 := ⟨_, _, Try.func62, rfl, by kernel_rfl⟩

-- laws_szPickS
def sm63 : Sm := ⟨[.val false [(.sl 151 k2)], .val false [I]], [(false, [(I, 0)])]⟩
def an63 : An := ⟨fun _ => none,
  fun _ => none,
  fun _ => none⟩
def s63 (n : Nat) : SmF := ⟨sm63, fun x => N.laws_szPickS x.1 x.2⟩
def env63 (n : Nat) : List (FuncId × SmF) := []
theorem ev63 (n : Nat) (x : sm63.ins.D) : evFn (find tbl) (find (env63 n)) an63 n Try.f63 sm63 x = N.laws_szPickS x.1 x.2 := by kernel_rfl
theorem ok63 (n : Nat) : FnOk Try.prog 63 (s63 n) := fn_native (an := an63) (n := n) Try.func63 rfl (by kernel_rfl) tblOk env_nil follows (ev63 n)
theorem body63 : HasBody Try.prog 63 := ⟨_, _, Try.func63, rfl, by kernel_rfl⟩

-- laws_szOrder
def sm18 : Sm := ⟨[.val true [I, I, (.sl 149 k1), (.sl 151 k2), I], .val false [I]], [(false, [(I, 0)])]⟩
def an18 : An := ⟨fun _ => none,
  fun _ => none,
  fun _ => none⟩
def s18 (n : Nat) : SmF := ⟨sm18, fun x => N.laws_szOrder x.1 x.2.1 x.2.2.1 x.2.2.2.1 x.2.2.2.2.1 x.2.2.2.2.2⟩
def env18 (n : Nat) : List (FuncId × SmF) := [(62, s62 n), (63, s63 n)]
theorem ev18 (n : Nat) (x : sm18.ins.D) : evFn (find tbl) (find (env18 n)) an18 n Try.f18 sm18 x = N.laws_szOrder x.1 x.2.1 x.2.2.1 x.2.2.2.1 x.2.2.2.2.1 x.2.2.2.2.2 := by kernel_rfl
theorem ok18 (n : Nat) : FnOk Try.prog 18 (s18 n) := fn_native (an := an18) (n := n) Try.func18 rfl (by kernel_rfl) tblOk (env_cons (ok62 n) body62 (env_cons (ok63 n) body63 env_nil)) follows (ev18 n)
theorem body18 : HasBody Try.prog 18 := ⟨_, _, Try.func18, rfl, by kernel_rfl⟩

-- laws_toItem
def sm112 : Sm := ⟨[.val true [I, I]], [(true, [(I, 0), (I, 0)])]⟩
def an112 : An := ⟨fun _ => none,
  fun _ => none,
  fun _ => none⟩
def s112 (n : Nat) : SmF := ⟨sm112, fun x => N.laws_toItem x.1 x.2⟩
def env112 (n : Nat) : List (FuncId × SmF) := []
theorem ev112 (n : Nat) (x : sm112.ins.D) : evFn (find tbl) (find (env112 n)) an112 n Try.f112 sm112 x = N.laws_toItem x.1 x.2 := by kernel_rfl
theorem ok112 (n : Nat) : FnOk Try.prog 112 (s112 n) := fn_native (an := an112) (n := n) Try.func112 rfl (by kernel_rfl) tblOk env_nil follows (ev112 n)
theorem body112 : HasBody Try.prog 112 := ⟨_, _, Try.func112, rfl, by kernel_rfl⟩

-- laws_toItemS
def sm64 : Sm := ⟨[.val false [(.sl 149 k1)]], [(false, [((.sl 147 k1), 2)])]⟩
def an64 : An := ⟨fun _ => none,
  fun b => match b with
    | 0 => some ([.slot 4 I, .own 3 147 k1 2 false], false)
    | _ => none,
  fun _ => none⟩
def s64 (n : Nat) : SmF := ⟨sm64, fun x => N.laws_toItemS n x⟩
def env64 (n : Nat) : List (FuncId × SmF) := [(112, s112 n)]
theorem ev64 (n : Nat) (x : sm64.ins.D) : evFn (find tbl) (find (env64 n)) an64 n Try.f64 sm64 x = N.laws_toItemS n x := by kernel_rfl
theorem ok64 (n : Nat) : FnOk Try.prog 64 (s64 n) := fn_native (an := an64) (n := n) Try.func64 rfl (by kernel_rfl) tblOk (env_cons (ok112 n) body112 env_nil) follows (ev64 n)
theorem body64 : HasBody Try.prog 64 := ⟨_, _, Try.func64, rfl, by kernel_rfl⟩

-- laws_toPick
def sm113 : Sm := ⟨[.val true [I, I, I]], [(true, [(I, 0), (I, 0), (I, 0)])]⟩
def an113 : An := ⟨fun _ => none,
  fun _ => none,
  fun _ => none⟩
def s113 (n : Nat) : SmF := ⟨sm113, fun x => N.laws_toPick x.1 x.2.1 x.2.2⟩
def env113 (n : Nat) : List (FuncId × SmF) := []
theorem ev113 (n : Nat) (x : sm113.ins.D) : evFn (find tbl) (find (env113 n)) an113 n Try.f113 sm113 x = N.laws_toPick x.1 x.2.1 x.2.2 := by kernel_rfl
theorem ok113 (n : Nat) : FnOk Try.prog 113 (s113 n) := fn_native (an := an113) (n := n) Try.func113 rfl (by kernel_rfl) tblOk env_nil follows (ev113 n)
theorem body113 : HasBody Try.prog 113 := ⟨_, _, Try.func113, rfl, by kernel_rfl⟩

-- laws_toPickS
def sm65 : Sm := ⟨[.val false [(.sl 151 k2)]], [(false, [((.sl 102 k2), 2)])]⟩
def an65 : An := ⟨fun _ => none,
  fun b => match b with
    | 0 => some ([.slot 4 I, .own 3 102 k2 2 false], false)
    | _ => none,
  fun _ => none⟩
def s65 (n : Nat) : SmF := ⟨sm65, fun x => N.laws_toPickS n x⟩
def env65 (n : Nat) : List (FuncId × SmF) := [(113, s113 n)]
theorem ev65 (n : Nat) (x : sm65.ins.D) : evFn (find tbl) (find (env65 n)) an65 n Try.f65 sm65 x = N.laws_toPickS n x := by kernel_rfl
theorem ok65 (n : Nat) : FnOk Try.prog 65 (s65 n) := fn_native (an := an65) (n := n) Try.func65 rfl (by kernel_rfl) tblOk (env_cons (ok113 n) body113 env_nil) follows (ev65 n)
theorem body65 : HasBody Try.prog 65 := ⟨_, _, Try.func65, rfl, by kernel_rfl⟩

-- laws_toOrder
def sm20 : Sm := ⟨[.val true [I, I, (.sl 149 k1), (.sl 151 k2), I]], [(true, [(I, 0), (I, 0), ((.sl 147 k1), 2), ((.sl 102 k2), 2), (I, 0)])]⟩
def an20 : An := ⟨fun _ => none,
  fun _ => none,
  fun _ => none⟩
def s20 (n : Nat) : SmF := ⟨sm20, fun x => N.laws_toOrder n x.1 x.2.1 x.2.2.1 x.2.2.2.1 x.2.2.2.2⟩
def env20 (n : Nat) : List (FuncId × SmF) := [(64, s64 n), (65, s65 n)]
theorem ev20 (n : Nat) (x : sm20.ins.D) : evFn (find tbl) (find (env20 n)) an20 n Try.f20 sm20 x = N.laws_toOrder n x.1 x.2.1 x.2.2.1 x.2.2.2.1 x.2.2.2.2 := by kernel_rfl
theorem ok20 (n : Nat) : FnOk Try.prog 20 (s20 n) := fn_native (an := an20) (n := n) Try.func20 rfl (by kernel_rfl) tblOk (env_cons (ok64 n) body64 (env_cons (ok65 n) body65 env_nil)) follows (ev20 n)
theorem body20 : HasBody Try.prog 20 := ⟨_, _, Try.func20, rfl, by kernel_rfl⟩

-- spec_l6Among
def sm115 : Sm := ⟨[.val false [(.sl 3 (.one I))], .val false [I]], [(false, [(.bool, 0)])]⟩
def an115 : An := ⟨fun _ => none,
  fun b => match b with
    | 0 => some ([.slot 5 I], true)
    | _ => none,
  fun _ => none⟩
def s115 (n : Nat) : SmF := ⟨sm115, fun x => N.spec_l6Among n x.1 x.2⟩
def env115 (n : Nat) : List (FuncId × SmF) := []
theorem ev115 (n : Nat) (x : sm115.ins.D) : evFn (find tbl) (find (env115 n)) an115 n Try.f115 sm115 x = N.spec_l6Among n x.1 x.2 := by kernel_rfl
theorem ok115 (n : Nat) : FnOk Try.prog 115 (s115 n) := fn_native (an := an115) (n := n) Try.func115 rfl (by kernel_rfl) tblOk env_nil follows (ev115 n)
theorem body115 : HasBody Try.prog 115 := ⟨_, _, Try.func115, rfl, by kernel_rfl⟩

-- spec_PodsOf
def sm69 : Sm := ⟨[.val false [(.sl 102 k2)]], [(false, [((.sl 3 (.one I)), 2)])]⟩
def an69 : An := ⟨fun _ => none,
  fun b => match b with
    | 0 => some ([.own 3 3 (.one I) 2 false, .slot 4 I], false)
    | _ => none,
  fun b => match b with
    | 7 => some ([.own 3 3 (.one I) 2 false], false)
    | _ => none⟩
def s69 (n : Nat) : SmF := ⟨sm69, fun x => N.spec_PodsOf n x⟩
def env69 (n : Nat) : List (FuncId × SmF) := [(115, s115 n)]
theorem ev69 (n : Nat) (x : sm69.ins.D) : evFn (find tbl) (find (env69 n)) an69 n Try.f69 sm69 x = N.spec_PodsOf n x := by kernel_rfl
theorem ok69 (n : Nat) : FnOk Try.prog 69 (s69 n) := fn_native (an := an69) (n := n) Try.func69 rfl (by kernel_rfl) tblOk (env_cons (ok115 n) body115 env_nil) follows (ev69 n)
theorem body69 : HasBody Try.prog 69 := ⟨_, _, Try.func69, rfl, by kernel_rfl⟩

-- spec_TasksOf
def sm27 : Sm := ⟨[.val true [I, I, (.sl 147 k1), (.sl 102 k2), I]], [(false, [((.sl 110 k5), 2)])]⟩
def an27 : An := ⟨fun _ => none,
  fun b => match b with
    | 0 => some ([.own 3 110 k5 2 false, .slot 5 I], false)
    | _ => none,
  fun _ => none⟩
def s27 (n : Nat) : SmF := ⟨sm27, fun x => N.spec_TasksOf n x.1 x.2.1 x.2.2.1 x.2.2.2.1 x.2.2.2.2⟩
def env27 (n : Nat) : List (FuncId × SmF) := [(69, s69 n)]
theorem ev27 (n : Nat) (x : sm27.ins.D) : evFn (find tbl) (find (env27 n)) an27 n Try.f27 sm27 x = N.spec_TasksOf n x.1 x.2.1 x.2.2.1 x.2.2.2.1 x.2.2.2.2 := by kernel_rfl
theorem ok27 (n : Nat) : FnOk Try.prog 27 (s27 n) := fn_native (an := an27) (n := n) Try.func27 rfl (by kernel_rfl) tblOk (env_cons (ok69 n) body69 env_nil) follows (ev27 n)
theorem body27 : HasBody Try.prog 27 := ⟨_, _, Try.func27, rfl, by kernel_rfl⟩

-- impl_hasInt
def sm116 : Sm := ⟨[.val false [(.sl 3 (.one I))], .val false [I]], [(false, [(.bool, 0)])]⟩
def an116 : An := ⟨fun _ => none,
  fun b => match b with
    | 0 => some ([.slot 9 I], true)
    | _ => none,
  fun _ => none⟩
def s116 (n : Nat) : SmF := ⟨sm116, fun x => N.impl_hasInt n x.1 x.2⟩
def env116 (n : Nat) : List (FuncId × SmF) := []
theorem ev116 (n : Nat) (x : sm116.ins.D) : evFn (find tbl) (find (env116 n)) an116 n Try.f116 sm116 x = N.impl_hasInt n x.1 x.2 := by kernel_rfl
theorem ok116 (n : Nat) : FnOk Try.prog 116 (s116 n) := fn_native (an := an116) (n := n) Try.func116 rfl (by kernel_rfl) tblOk env_nil follows (ev116 n)
theorem body116 : HasBody Try.prog 116 := ⟨_, _, Try.func116, rfl, by kernel_rfl⟩

-- impl_PodsOf
def sm70 : Sm := ⟨[.val false [(.sl 102 k2)]], [(false, [((.sl 3 (.one I)), 2)])]⟩
def an70 : An := ⟨fun _ => none,
  fun b => match b with
    | 0 => some ([.own 3 3 (.one I) 2 false, .slot 8 I], false)
    | _ => none,
  fun b => match b with
    | 7 => some ([.own 3 3 (.one I) 2 false], false)
    | _ => none⟩
def s70 (n : Nat) : SmF := ⟨sm70, fun x => N.impl_PodsOf n x⟩
def env70 (n : Nat) : List (FuncId × SmF) := [(116, s116 n)]
theorem ev70 (n : Nat) (x : sm70.ins.D) : evFn (find tbl) (find (env70 n)) an70 n Try.f70 sm70 x = N.impl_PodsOf n x := by kernel_rfl
theorem ok70 (n : Nat) : FnOk Try.prog 70 (s70 n) := fn_native (an := an70) (n := n) Try.func70 rfl (by kernel_rfl) tblOk (env_cons (ok116 n) body116 env_nil) follows (ev70 n)
theorem body70 : HasBody Try.prog 70 := ⟨_, _, Try.func70, rfl, by kernel_rfl⟩

-- impl_TasksOf
def sm28 : Sm := ⟨[.val true [I, I, (.sl 147 k1), (.sl 102 k2), I]], [(false, [((.sl 110 k5), 2)])]⟩
def an28 : An := ⟨fun _ => none,
  fun b => match b with
    | 0 => some ([.own 3 110 k5 2 false, .slot 10 I], false)
    | _ => none,
  fun _ => none⟩
def s28 (n : Nat) : SmF := ⟨sm28, fun x => N.impl_TasksOf n x.1 x.2.1 x.2.2.1 x.2.2.2.1 x.2.2.2.2⟩
def env28 (n : Nat) : List (FuncId × SmF) := [(70, s70 n)]
theorem ev28 (n : Nat) (x : sm28.ins.D) : evFn (find tbl) (find (env28 n)) an28 n Try.f28 sm28 x = N.impl_TasksOf n x.1 x.2.1 x.2.2.1 x.2.2.2.1 x.2.2.2.2 := by kernel_rfl
theorem ok28 (n : Nat) : FnOk Try.prog 28 (s28 n) := fn_native (an := an28) (n := n) Try.func28 rfl (by kernel_rfl) tblOk (env_cons (ok70 n) body70 env_nil) follows (ev28 n)
theorem body28 : HasBody Try.prog 28 := ⟨_, _, Try.func28, rfl, by kernel_rfl⟩

-- laws_eqTask
def sm71 : Sm := ⟨[.val true [I, I, I, I], .val true [I, I, I, I]], [(false, [(.bool, 0)])]⟩
def an71 : An := ⟨fun _ => none,
  fun _ => none,
  fun _ => none⟩
def s71 (n : Nat) : SmF := ⟨sm71, fun x => N.laws_eqTask x.1 x.2.1 x.2.2.1 x.2.2.2.1 x.2.2.2.2.1 x.2.2.2.2.2.1 x.2.2.2.2.2.2.1 x.2.2.2.2.2.2.2⟩
def env71 (n : Nat) : List (FuncId × SmF) := []
theorem ev71 (n : Nat) (x : sm71.ins.D) : evFn (find tbl) (find (env71 n)) an71 n Try.f71 sm71 x = N.laws_eqTask x.1 x.2.1 x.2.2.1 x.2.2.2.1 x.2.2.2.2.1 x.2.2.2.2.2.1 x.2.2.2.2.2.2.1 x.2.2.2.2.2.2.2 := by kernel_rfl
theorem ok71 (n : Nat) : FnOk Try.prog 71 (s71 n) := fn_native (an := an71) (n := n) Try.func71 rfl (by kernel_rfl) tblOk env_nil follows (ev71 n)
theorem body71 : HasBody Try.prog 71 := ⟨_, _, Try.func71, rfl, by kernel_rfl⟩

-- laws_eqTaskS
def sm29 : Sm := ⟨[.val false [(.sl 110 k5)], .val false [(.sl 110 k5)]], [(false, [(.bool, 0)])]⟩
def an29 : An := ⟨fun _ => none,
  fun b => match b with
    | 0 => some ([.slot 5 I], true)
    | _ => none,
  fun _ => none⟩
def s29 (n : Nat) : SmF := ⟨sm29, fun x => N.laws_eqTaskS n x.1 x.2⟩
def env29 (n : Nat) : List (FuncId × SmF) := [(71, s71 n)]
theorem ev29 (n : Nat) (x : sm29.ins.D) : evFn (find tbl) (find (env29 n)) an29 n Try.f29 sm29 x = N.laws_eqTaskS n x.1 x.2 := by kernel_rfl
theorem ok29 (n : Nat) : FnOk Try.prog 29 (s29 n) := fn_native (an := an29) (n := n) Try.func29 rfl (by kernel_rfl) tblOk (env_cons (ok71 n) body71 env_nil) follows (ev29 n)
theorem body29 : HasBody Try.prog 29 := ⟨_, _, Try.func29, rfl, by kernel_rfl⟩

-- laws_eqItem
def sm114 : Sm := ⟨[.val true [I, I], .val true [I, I]], [(false, [(.bool, 0)])]⟩
def an114 : An := ⟨fun _ => none,
  fun _ => none,
  fun _ => none⟩
def s114 (n : Nat) : SmF := ⟨sm114, fun x => N.laws_eqItem x.1 x.2.1 x.2.2.1 x.2.2.2⟩
def env114 (n : Nat) : List (FuncId × SmF) := []
theorem ev114 (n : Nat) (x : sm114.ins.D) : evFn (find tbl) (find (env114 n)) an114 n Try.f114 sm114 x = N.laws_eqItem x.1 x.2.1 x.2.2.1 x.2.2.2 := by kernel_rfl
theorem ok114 (n : Nat) : FnOk Try.prog 114 (s114 n) := fn_native (an := an114) (n := n) Try.func114 rfl (by kernel_rfl) tblOk env_nil follows (ev114 n)
theorem body114 : HasBody Try.prog 114 := ⟨_, _, Try.func114, rfl, by kernel_rfl⟩

-- laws_eqItemS
def sm67 : Sm := ⟨[.val false [(.sl 147 k1)], .val false [(.sl 147 k1)]], [(false, [(.bool, 0)])]⟩
def an67 : An := ⟨fun _ => none,
  fun b => match b with
    | 0 => some ([.slot 5 I], true)
    | _ => none,
  fun _ => none⟩
def s67 (n : Nat) : SmF := ⟨sm67, fun x => N.laws_eqItemS n x.1 x.2⟩
def env67 (n : Nat) : List (FuncId × SmF) := [(114, s114 n)]
theorem ev67 (n : Nat) (x : sm67.ins.D) : evFn (find tbl) (find (env67 n)) an67 n Try.f67 sm67 x = N.laws_eqItemS n x.1 x.2 := by kernel_rfl
theorem ok67 (n : Nat) : FnOk Try.prog 67 (s67 n) := fn_native (an := an67) (n := n) Try.func67 rfl (by kernel_rfl) tblOk (env_cons (ok114 n) body114 env_nil) follows (ev67 n)
theorem body67 : HasBody Try.prog 67 := ⟨_, _, Try.func67, rfl, by kernel_rfl⟩

-- laws_eqPick
def sm66 : Sm := ⟨[.val true [I, I, I], .val true [I, I, I]], [(false, [(.bool, 0)])]⟩
def an66 : An := ⟨fun _ => none,
  fun _ => none,
  fun _ => none⟩
def s66 (n : Nat) : SmF := ⟨sm66, fun x => N.laws_eqPick x.1 x.2.1 x.2.2.1 x.2.2.2.1 x.2.2.2.2.1 x.2.2.2.2.2⟩
def env66 (n : Nat) : List (FuncId × SmF) := []
theorem ev66 (n : Nat) (x : sm66.ins.D) : evFn (find tbl) (find (env66 n)) an66 n Try.f66 sm66 x = N.laws_eqPick x.1 x.2.1 x.2.2.1 x.2.2.2.1 x.2.2.2.2.1 x.2.2.2.2.2 := by kernel_rfl
theorem ok66 (n : Nat) : FnOk Try.prog 66 (s66 n) := fn_native (an := an66) (n := n) Try.func66 rfl (by kernel_rfl) tblOk env_nil follows (ev66 n)
theorem body66 : HasBody Try.prog 66 := ⟨_, _, Try.func66, rfl, by kernel_rfl⟩

-- laws_eqPickS
def sm22 : Sm := ⟨[.val false [(.sl 102 k2)], .val false [(.sl 102 k2)]], [(false, [(.bool, 0)])]⟩
def an22 : An := ⟨fun _ => none,
  fun b => match b with
    | 0 => some ([.slot 5 I], true)
    | _ => none,
  fun _ => none⟩
def s22 (n : Nat) : SmF := ⟨sm22, fun x => N.laws_eqPickS n x.1 x.2⟩
def env22 (n : Nat) : List (FuncId × SmF) := [(66, s66 n)]
theorem ev22 (n : Nat) (x : sm22.ins.D) : evFn (find tbl) (find (env22 n)) an22 n Try.f22 sm22 x = N.laws_eqPickS n x.1 x.2 := by kernel_rfl
theorem ok22 (n : Nat) : FnOk Try.prog 22 (s22 n) := fn_native (an := an22) (n := n) Try.func22 rfl (by kernel_rfl) tblOk (env_cons (ok66 n) body66 env_nil) follows (ev22 n)
theorem body22 : HasBody Try.prog 22 := ⟨_, _, Try.func22, rfl, by kernel_rfl⟩

-- laws_eqOrder
def sm23 : Sm := ⟨[.val true [I, I, (.sl 147 k1), (.sl 102 k2), I], .val true [I, I, (.sl 147 k1), (.sl 102 k2), I]], [(false, [(.bool, 0)])]⟩
def an23 : An := ⟨fun _ => none,
  fun _ => none,
  fun _ => none⟩
def s23 (n : Nat) : SmF := ⟨sm23, fun x => N.laws_eqOrder n x.1 x.2.1 x.2.2.1 x.2.2.2.1 x.2.2.2.2.1 x.2.2.2.2.2.1 x.2.2.2.2.2.2.1 x.2.2.2.2.2.2.2.1 x.2.2.2.2.2.2.2.2.1 x.2.2.2.2.2.2.2.2.2⟩
def env23 (n : Nat) : List (FuncId × SmF) := [(22, s22 n), (67, s67 n)]
theorem ev23 (n : Nat) (x : sm23.ins.D) : evFn (find tbl) (find (env23 n)) an23 n Try.f23 sm23 x = N.laws_eqOrder n x.1 x.2.1 x.2.2.1 x.2.2.2.1 x.2.2.2.2.1 x.2.2.2.2.2.1 x.2.2.2.2.2.2.1 x.2.2.2.2.2.2.2.1 x.2.2.2.2.2.2.2.2.1 x.2.2.2.2.2.2.2.2.2 := by kernel_rfl
theorem ok23 (n : Nat) : FnOk Try.prog 23 (s23 n) := fn_native (an := an23) (n := n) Try.func23 rfl (by kernel_rfl) tblOk (env_cons (ok22 n) body22 (env_cons (ok67 n) body67 env_nil)) follows (ev23 n)
theorem body23 : HasBody Try.prog 23 := ⟨_, _, Try.func23, rfl, by kernel_rfl⟩

-- laws_markItemS
def sm68 : Sm := ⟨[.row false [((.sl 147 k1), 2)], .val false [I]], [(false, [(I, 0)])]⟩
def an68 : An := ⟨fun _ => none,
  fun b => match b with
    | 0 => some ([.slot 1 I, .slot 5 I, .own 0 147 k1 2 true], false)
    | _ => none,
  fun _ => none⟩
def s68 (n : Nat) : SmF := ⟨sm68, fun x => N.laws_markItemS n x.1 x.2⟩
def env68 (n : Nat) : List (FuncId × SmF) := []
theorem ev68 (n : Nat) (x : sm68.ins.D) : evFn (find tbl) (find (env68 n)) an68 n Try.f68 sm68 x = N.laws_markItemS n x.1 x.2 := by kernel_rfl
theorem ok68 (n : Nat) : FnOk Try.prog 68 (s68 n) := fn_native (an := an68) (n := n) Try.func68 rfl (by kernel_rfl) tblOk env_nil follows (ev68 n)
theorem body68 : HasBody Try.prog 68 := ⟨_, _, Try.func68, rfl, by kernel_rfl⟩

-- laws_markPickS
def sm25 : Sm := ⟨[.row false [((.sl 102 k2), 2)], .val false [I]], [(false, [(I, 0)])]⟩
def an25 : An := ⟨fun _ => none,
  fun b => match b with
    | 0 => some ([.slot 1 I, .slot 5 I, .own 0 102 k2 2 true], false)
    | _ => none,
  fun _ => none⟩
def s25 (n : Nat) : SmF := ⟨sm25, fun x => N.laws_markPickS n x.1 x.2⟩
def env25 (n : Nat) : List (FuncId × SmF) := []
theorem ev25 (n : Nat) (x : sm25.ins.D) : evFn (find tbl) (find (env25 n)) an25 n Try.f25 sm25 x = N.laws_markPickS n x.1 x.2 := by kernel_rfl
theorem ok25 (n : Nat) : FnOk Try.prog 25 (s25 n) := fn_native (an := an25) (n := n) Try.func25 rfl (by kernel_rfl) tblOk env_nil follows (ev25 n)
theorem body25 : HasBody Try.prog 25 := ⟨_, _, Try.func25, rfl, by kernel_rfl⟩

-- laws_markOrder
def sm24 : Sm := ⟨[.row true [(I, 0), (I, 0), ((.sl 147 k1), 2), ((.sl 102 k2), 2), (I, 0)], .val false [I]], [(false, [(I, 0)])]⟩
def an24 : An := ⟨fun _ => none,
  fun _ => none,
  fun _ => none⟩
def s24 (n : Nat) : SmF := ⟨sm24, fun x => N.laws_markOrder n x.1 x.2.1 x.2.2.1 x.2.2.2.1 x.2.2.2.2.1 x.2.2.2.2.2⟩
def env24 (n : Nat) : List (FuncId × SmF) := [(25, s25 n), (68, s68 n)]
theorem ev24 (n : Nat) (x : sm24.ins.D) : evFn (find tbl) (find (env24 n)) an24 n Try.f24 sm24 x = N.laws_markOrder n x.1 x.2.1 x.2.2.1 x.2.2.2.1 x.2.2.2.2.1 x.2.2.2.2.2 := by kernel_rfl
theorem ok24 (n : Nat) : FnOk Try.prog 24 (s24 n) := fn_native (an := an24) (n := n) Try.func24 rfl (by kernel_rfl) tblOk (env_cons (ok25 n) body25 (env_cons (ok68 n) body68 env_nil)) follows (ev24 n)
theorem body24 : HasBody Try.prog 24 := ⟨_, _, Try.func24, rfl, by kernel_rfl⟩

-- laws_markTaskS
def sm30 : Sm := ⟨[.row false [((.sl 110 k5), 2)], .val false [I]], [(false, [(I, 0)])]⟩
def an30 : An := ⟨fun _ => none,
  fun b => match b with
    | 0 => some ([.slot 1 I, .slot 5 I, .own 0 110 k5 2 true], false)
    | _ => none,
  fun _ => none⟩
def s30 (n : Nat) : SmF := ⟨sm30, fun x => N.laws_markTaskS n x.1 x.2⟩
def env30 (n : Nat) : List (FuncId × SmF) := []
theorem ev30 (n : Nat) (x : sm30.ins.D) : evFn (find tbl) (find (env30 n)) an30 n Try.f30 sm30 x = N.laws_markTaskS n x.1 x.2 := by kernel_rfl
theorem ok30 (n : Nat) : FnOk Try.prog 30 (s30 n) := fn_native (an := an30) (n := n) Try.func30 rfl (by kernel_rfl) tblOk env_nil follows (ev30 n)
theorem body30 : HasBody Try.prog 30 := ⟨_, _, Try.func30, rfl, by kernel_rfl⟩

-- laws_heldTaskS
def sm31 : Sm := ⟨[.val false [(.sl 110 k5)], .val false [I]], [(false, [(I, 0)])]⟩
def an31 : An := ⟨fun _ => none,
  fun b => match b with
    | 0 => some ([.slot 1 I, .slot 5 I], true)
    | _ => none,
  fun _ => none⟩
def s31 (n : Nat) : SmF := ⟨sm31, fun x => N.laws_heldTaskS n x.1 x.2⟩
def env31 (n : Nat) : List (FuncId × SmF) := []
theorem ev31 (n : Nat) (x : sm31.ins.D) : evFn (find tbl) (find (env31 n)) an31 n Try.f31 sm31 x = N.laws_heldTaskS n x.1 x.2 := by kernel_rfl
theorem ok31 (n : Nat) : FnOk Try.prog 31 (s31 n) := fn_native (an := an31) (n := n) Try.func31 rfl (by kernel_rfl) tblOk env_nil follows (ev31 n)
theorem body31 : HasBody Try.prog 31 := ⟨_, _, Try.func31, rfl, by kernel_rfl⟩

-- laws_FnExactTasksOf
def sm5 : Sm := ⟨[.val true [I, I, (.sl 149 k1), (.sl 151 k2), I]], [(false, [(.bool, 0)])]⟩
def an5 : An := ⟨fun _ => none,
  fun _ => none,
  fun _ => none⟩
def s5 (n : Nat) : SmF := ⟨sm5, fun x => N.laws_FnExactTasksOf n x.1 x.2.1 x.2.2.1 x.2.2.2.1 x.2.2.2.2⟩
def env5 (n : Nat) : List (FuncId × SmF) := [(18, s18 n), (20, s20 n), (23, s23 n), (24, s24 n), (27, s27 n), (28, s28 n), (29, s29 n), (30, s30 n), (31, s31 n)]
theorem ev5 (n : Nat) (x : sm5.ins.D) : evFn (find tbl) (find (env5 n)) an5 n Try.f5 sm5 x = N.laws_FnExactTasksOf n x.1 x.2.1 x.2.2.1 x.2.2.2.1 x.2.2.2.2 := by kernel_rfl
theorem ok5 (n : Nat) : FnOk Try.prog 5 (s5 n) := fn_native (an := an5) (n := n) Try.func5 rfl (by kernel_rfl) tblOk (env_cons (ok18 n) body18 (env_cons (ok20 n) body20 (env_cons (ok23 n) body23 (env_cons (ok24 n) body24 (env_cons (ok27 n) body27 (env_cons (ok28 n) body28 (env_cons (ok29 n) body29 (env_cons (ok30 n) body30 (env_cons (ok31 n) body31 env_nil))))))))) follows (ev5 n)
theorem body5 : HasBody Try.prog 5 := ⟨_, _, Try.func5, rfl, by kernel_rfl⟩
end Go.Proofs.Ytcilnijdhaidjaa.Ev
