/- Tables of types; summaries of the functions. Conditions: none. -/
import Derived.Test.YtcilnijdhaidjaaDoorLib4
import Derived.Shelf.Lay
import Derived.Ground.NamesProg
import Derived.Test.YtcilnijdhaidjaaDoorFnExactRecordNat
import Derived.Test.YtcilnijdhaidjaaDoorProg
import Derived.KernelRfl
namespace Go.Proofs.YtcilnijdhaidjaaDoor.Ev
open Go Go.Ev Go.Proofs
set_option linter.unusedVariables false
set_option maxRecDepth 100000

abbrev I : L := .int .i64
/-- Package-level variables that are looked at. -/
abbrev TT : List (String × Array Value) := tabItoa
end Go.Proofs.YtcilnijdhaidjaaDoor.Ev
namespace Go.Proofs
open Go.Shelf
shelf_lay LaysM.n171 Nm 171 at Tryd as Tryd.lays171
end Go.Proofs
namespace Go.Proofs.YtcilnijdhaidjaaDoor.Ev
open Go Go.Ev Go.Proofs
def k0 : Ls := (.cons .str (.one (.int .u64)))
def k1 : Ls := (.cons I (.one I))
def k2 : Ls := (.cons I (.cons I (.cons .bool (.one (.int .u8)))))
def k3 : Ls := (.cons I (.cons I (.cons (.sl 46 k1) (.cons I (.cons I (.cons I (.one I)))))))
def k4 : Ls := (.cons I (.cons I (.cons (.sl 37 k1) (.cons I (.cons I (.cons I (.one I)))))))
def tbl : List (Nat × Ty) := [
  (3, ⟨false, (.one I), []⟩),
  (4, ⟨false, (.one .bool), []⟩),
  (5, ⟨false, (.one (.int .u8)), []⟩),
  (9, ⟨false, (.one .str), []⟩),
  (22, ⟨false, (.one (.sl 46 k1)), []⟩),
  (24, ⟨true, k3, [(0, 3), (1, 3), (2, 22), (3, 3), (4, 3), (5, 3), (6, 3)]⟩),
  (27, ⟨false, (.one (.sl 37 k1)), []⟩),
  (29, ⟨true, k4, [(0, 3), (1, 3), (2, 27), (3, 3), (4, 3), (5, 3), (6, 3)]⟩),
  (37, ⟨true, k1, [(0, 3), (1, 3)]⟩),
  (44, ⟨false, (.one (.sl 5 (.one (.int .u8)))), []⟩),
  (46, ⟨true, k1, [(0, 3), (1, 3)]⟩)]
theorem tblOk : tbl.all (fun p => tyB Tryd.prog p.1 p.2) = true := by kernel_rfl
theorem follows : Tryd.prog.follows .mixedOrders = true := by kernel_rfl
-- laws_szItemS
def sm12 : Sm := ⟨[.val false [(.sl 46 k1)], .val false [I]], [(false, [(I, 0)])]⟩
def an12 : An := ⟨fun _ => none,
  fun _ => none,
  fun _ => none⟩
def s12 (n : Nat) : SmF := ⟨sm12, fun x => N.laws_szItemS x.1 x.2⟩
def env12 (n : Nat) : List (FuncId × SmF) := []
theorem ev12 (n : Nat) (x : sm12.ins.D) : evFn (find tbl) (find (env12 n)) an12 n Tryd.f12 sm12 x = N.laws_szItemS x.1 x.2 := by kernel_rfl
theorem ok12 (n : Nat) : FnOk Tryd.prog TT 12 (s12 n) := fn_native (an := an12) (n := n) Tryd.func12 rfl (by kernel_rfl) tblOk env_nil follows (ev12 n)
theorem body12 : HasBody Tryd.prog 12 := ⟨_, _, Tryd.func12, rfl, by kernel_rfl⟩

-- laws_szAct
def sm5 : Sm := ⟨[.val true [I, I, (.sl 46 k1), I, I, I, I], .val false [I]], [(false, [(I, 0)])]⟩
def an5 : An := ⟨fun _ => none,
  fun _ => none,
  fun _ => none⟩
def s5 (n : Nat) : SmF := ⟨sm5, fun x => N.laws_szAct x.1 x.2.1 x.2.2.1 x.2.2.2.1 x.2.2.2.2.1 x.2.2.2.2.2.1 x.2.2.2.2.2.2.1 x.2.2.2.2.2.2.2⟩
def env5 (n : Nat) : List (FuncId × SmF) := [(12, s12 n)]
theorem ev5 (n : Nat) (x : sm5.ins.D) : evFn (find tbl) (find (env5 n)) an5 n Tryd.f5 sm5 x = N.laws_szAct x.1 x.2.1 x.2.2.1 x.2.2.2.1 x.2.2.2.2.1 x.2.2.2.2.2.1 x.2.2.2.2.2.2.1 x.2.2.2.2.2.2.2 := by kernel_rfl
theorem ok5 (n : Nat) : FnOk Tryd.prog TT 5 (s5 n) := fn_native (an := an5) (n := n) Tryd.func5 rfl (by kernel_rfl) tblOk (env_cons (ok12 n) body12 env_nil) follows (ev5 n)
theorem body5 : HasBody Tryd.prog 5 := ⟨_, _, Tryd.func5, rfl, by kernel_rfl⟩

-- laws_toItem
def sm24 : Sm := ⟨[.val true [I, I]], [(true, [(I, 0), (I, 0)])]⟩
def an24 : An := ⟨fun _ => none,
  fun _ => none,
  fun _ => none⟩
def s24 (n : Nat) : SmF := ⟨sm24, fun x => N.laws_toItem x.1 x.2⟩
def env24 (n : Nat) : List (FuncId × SmF) := []
theorem ev24 (n : Nat) (x : sm24.ins.D) : evFn (find tbl) (find (env24 n)) an24 n Tryd.f24 sm24 x = N.laws_toItem x.1 x.2 := by kernel_rfl
theorem ok24 (n : Nat) : FnOk Tryd.prog TT 24 (s24 n) := fn_native (an := an24) (n := n) Tryd.func24 rfl (by kernel_rfl) tblOk env_nil follows (ev24 n)
theorem body24 : HasBody Tryd.prog 24 := ⟨_, _, Tryd.func24, rfl, by kernel_rfl⟩

-- laws_toItemS
def sm15 : Sm := ⟨[.val false [(.sl 46 k1)]], [(false, [((.sl 37 k1), 2)])]⟩
def an15 : An := ⟨fun _ => none,
  fun b => match b with
    | 0 => some ([.slot 4 I, .own 3 37 k1 2 false], false)
    | _ => none,
  fun _ => none⟩
def s15 (n : Nat) : SmF := ⟨sm15, fun x => N.laws_toItemS n x⟩
def env15 (n : Nat) : List (FuncId × SmF) := [(24, s24 n)]
theorem ev15 (n : Nat) (x : sm15.ins.D) : evFn (find tbl) (find (env15 n)) an15 n Tryd.f15 sm15 x = N.laws_toItemS n x := by kernel_rfl
theorem ok15 (n : Nat) : FnOk Tryd.prog TT 15 (s15 n) := fn_native (an := an15) (n := n) Tryd.func15 rfl (by kernel_rfl) tblOk (env_cons (ok24 n) body24 env_nil) follows (ev15 n)
theorem body15 : HasBody Tryd.prog 15 := ⟨_, _, Tryd.func15, rfl, by kernel_rfl⟩

-- laws_toAct
def sm7 : Sm := ⟨[.val true [I, I, (.sl 46 k1), I, I, I, I]], [(true, [(I, 0), (I, 0), ((.sl 37 k1), 2), (I, 0), (I, 0), (I, 0), (I, 0)])]⟩
def an7 : An := ⟨fun _ => none,
  fun _ => none,
  fun _ => none⟩
def s7 (n : Nat) : SmF := ⟨sm7, fun x => N.laws_toAct n x.1 x.2.1 x.2.2.1 x.2.2.2.1 x.2.2.2.2.1 x.2.2.2.2.2.1 x.2.2.2.2.2.2⟩
def env7 (n : Nat) : List (FuncId × SmF) := [(15, s15 n)]
theorem ev7 (n : Nat) (x : sm7.ins.D) : evFn (find tbl) (find (env7 n)) an7 n Tryd.f7 sm7 x = N.laws_toAct n x.1 x.2.1 x.2.2.1 x.2.2.2.1 x.2.2.2.2.1 x.2.2.2.2.2.1 x.2.2.2.2.2.2 := by kernel_rfl
theorem ok7 (n : Nat) : FnOk Tryd.prog TT 7 (s7 n) := fn_native (an := an7) (n := n) Tryd.func7 rfl (by kernel_rfl) tblOk (env_cons (ok15 n) body15 env_nil) follows (ev7 n)
theorem body7 : HasBody Tryd.prog 7 := ⟨_, _, Tryd.func7, rfl, by kernel_rfl⟩

-- spec_l14Only
def sm21 : Sm := ⟨[.val true [I, I, (.sl 37 k1), I, I, I, I], .val false [.bool], .val false [.bool], .val false [.bool], .val false [.bool]], [(false, [(.bool, 0)])]⟩
def an21 : An := ⟨fun _ => none,
  fun _ => none,
  fun _ => none⟩
def s21 (n : Nat) : SmF := ⟨sm21, fun x => N.spec_l14Only x.1 x.2.1 x.2.2.1 x.2.2.2.1 x.2.2.2.2.1 x.2.2.2.2.2.1 x.2.2.2.2.2.2.1 x.2.2.2.2.2.2.2.1 x.2.2.2.2.2.2.2.2.1 x.2.2.2.2.2.2.2.2.2.1 x.2.2.2.2.2.2.2.2.2.2⟩
def env21 (n : Nat) : List (FuncId × SmF) := []
theorem ev21 (n : Nat) (x : sm21.ins.D) : evFn (find tbl) (find (env21 n)) an21 n Tryd.f21 sm21 x = N.spec_l14Only x.1 x.2.1 x.2.2.1 x.2.2.2.1 x.2.2.2.2.1 x.2.2.2.2.2.1 x.2.2.2.2.2.2.1 x.2.2.2.2.2.2.2.1 x.2.2.2.2.2.2.2.2.1 x.2.2.2.2.2.2.2.2.2.1 x.2.2.2.2.2.2.2.2.2.2 := by kernel_rfl
theorem ok21 (n : Nat) : FnOk Tryd.prog TT 21 (s21 n) := fn_native (an := an21) (n := n) Tryd.func21 rfl (by kernel_rfl) tblOk env_nil follows (ev21 n)
theorem body21 : HasBody Tryd.prog 21 := ⟨_, _, Tryd.func21, rfl, by kernel_rfl⟩

-- spec_l1In
def sm22 : Sm := ⟨[.val false [I], .val false [I], .val false [I]], [(false, [(.bool, 0)])]⟩
def an22 : An := ⟨fun _ => none,
  fun _ => none,
  fun _ => none⟩
def s22 (n : Nat) : SmF := ⟨sm22, fun x => N.spec_l1In x.1 x.2.1 x.2.2⟩
def env22 (n : Nat) : List (FuncId × SmF) := []
theorem ev22 (n : Nat) (x : sm22.ins.D) : evFn (find tbl) (find (env22 n)) an22 n Tryd.f22 sm22 x = N.spec_l1In x.1 x.2.1 x.2.2 := by kernel_rfl
theorem ok22 (n : Nat) : FnOk Tryd.prog TT 22 (s22 n) := fn_native (an := an22) (n := n) Tryd.func22 rfl (by kernel_rfl) tblOk env_nil follows (ev22 n)
theorem body22 : HasBody Tryd.prog 22 := ⟨_, _, Tryd.func22, rfl, by kernel_rfl⟩

-- spec_ItemsOk
def sm23 : Sm := ⟨[.val false [(.sl 37 k1)]], [(false, [(.bool, 0)])]⟩
def an23 : An := ⟨fun _ => none,
  fun b => match b with
    | 0 => some ([.slot 3 I], true)
    | _ => none,
  fun _ => none⟩
def s23 (n : Nat) : SmF := ⟨sm23, fun x => N.spec_ItemsOk n x⟩
def env23 (n : Nat) : List (FuncId × SmF) := [(22, s22 n)]
theorem ev23 (n : Nat) (x : sm23.ins.D) : evFn (find tbl) (find (env23 n)) an23 n Tryd.f23 sm23 x = N.spec_ItemsOk n x := by kernel_rfl
theorem ok23 (n : Nat) : FnOk Tryd.prog TT 23 (s23 n) := fn_native (an := an23) (n := n) Tryd.func23 rfl (by kernel_rfl) tblOk (env_cons (ok22 n) body22 env_nil) follows (ev23 n)
theorem body23 : HasBody Tryd.prog 23 := ⟨_, _, Tryd.func23, rfl, by kernel_rfl⟩

-- spec_ActOk
def sm13 : Sm := ⟨[.val true [I, I, (.sl 37 k1), I, I, I, I]], [(false, [(.bool, 0)])]⟩
def an13 : An := ⟨fun _ => none,
  fun _ => none,
  fun _ => none⟩
def s13 (n : Nat) : SmF := ⟨sm13, fun x => N.spec_ActOk n x.1 x.2.1 x.2.2.1 x.2.2.2.1 x.2.2.2.2.1 x.2.2.2.2.2.1 x.2.2.2.2.2.2⟩
def env13 (n : Nat) : List (FuncId × SmF) := [(21, s21 n), (22, s22 n), (23, s23 n)]
theorem ev13 (n : Nat) (x : sm13.ins.D) : evFn (find tbl) (find (env13 n)) an13 n Tryd.f13 sm13 x = N.spec_ActOk n x.1 x.2.1 x.2.2.1 x.2.2.2.1 x.2.2.2.2.1 x.2.2.2.2.2.1 x.2.2.2.2.2.2 := by kernel_rfl
theorem ok13 (n : Nat) : FnOk Tryd.prog TT 13 (s13 n) := fn_native (an := an13) (n := n) Tryd.func13 rfl (by kernel_rfl) tblOk (env_cons (ok21 n) body21 (env_cons (ok22 n) body22 (env_cons (ok23 n) body23 env_nil))) follows (ev13 n)
theorem body13 : HasBody Tryd.prog 13 := ⟨_, _, Tryd.func13, rfl, by kernel_rfl⟩

-- spec_l14Text
def sm14 : Sm := ⟨[.val false [I]], [(false, [(.str, 0)])]⟩
def an14 : An := ⟨fun _ => none,
  fun _ => none,
  fun _ => none⟩
def s14 (n : Nat) : SmF := ⟨sm14, fun x => N.spec_l14Text n x⟩
def env14 (n : Nat) : List (FuncId × SmF) := [(14, s14 n)]
theorem ev14 (n : Nat) (x : sm14.ins.D) : evFn (find tbl) (find (env14 n)) an14 n Tryd.f14 sm14 x = N.spec_l14Text (n + 1) x := by kernel_rfl
theorem body14 : HasBody Tryd.prog 14 := ⟨_, _, Tryd.func14, rfl, by kernel_rfl⟩
theorem ok14 (n : Nat) : FnOk Tryd.prog TT 14 (s14 n) := by
  induction n with
  | zero => exact fn_none
  | succ n ih => exact fn_native (an := an14) (n := n) (l := env14 n) (F := fun (x : sm14.ins.D) => N.spec_l14Text (n + 1) x) Tryd.func14 rfl (by kernel_rfl) tblOk (env_cons ih body14 env_nil) follows (ev14 n)

-- spec_ActText
def sm6 : Sm := ⟨[.val true [I, I, (.sl 37 k1), I, I, I, I]], [(false, [(.str, 0)])]⟩
def an6 : An := ⟨fun _ => none,
  fun b => match b with
    | 1 => some ([.slot 3 .str, .slot 4 I], false)
    | _ => none,
  fun _ => none⟩
def s6 (n : Nat) : SmF := ⟨sm6, fun x => N.spec_ActText n x.1 x.2.1 x.2.2.1 x.2.2.2.1 x.2.2.2.2.1 x.2.2.2.2.2.1 x.2.2.2.2.2.2⟩
def env6 (n : Nat) : List (FuncId × SmF) := [(13, s13 n), (14, s14 n)]
theorem ev6 (n : Nat) (x : sm6.ins.D) : evFn (find tbl) (find (env6 n)) an6 n Tryd.f6 sm6 x = N.spec_ActText n x.1 x.2.1 x.2.2.1 x.2.2.2.1 x.2.2.2.2.1 x.2.2.2.2.2.1 x.2.2.2.2.2.2 := by kernel_rfl
theorem ok6 (n : Nat) : FnOk Tryd.prog TT 6 (s6 n) := fn_native (an := an6) (n := n) Tryd.func6 rfl (by kernel_rfl) tblOk (env_cons (ok13 n) body13 (env_cons (ok14 n) body14 env_nil)) follows (ev6 n)
theorem body6 : HasBody Tryd.prog 6 := ⟨_, _, Tryd.func6, rfl, by kernel_rfl⟩

-- spec_CheckOf
def sm19 : Sm := ⟨[.val false [.str]], [(false, [(I, 0)])]⟩
def an19 : An := ⟨fun _ => none,
  fun b => match b with
    | 0 => some ([.slot 3 I, .slot 4 I], false)
    | _ => none,
  fun _ => none⟩
def s19 (n : Nat) : SmF := ⟨sm19, fun x => N.spec_CheckOf n x⟩
def env19 (n : Nat) : List (FuncId × SmF) := []
theorem ev19 (n : Nat) (x : sm19.ins.D) : evFn (find tbl) (find (env19 n)) an19 n Tryd.f19 sm19 x = N.spec_CheckOf n x := by kernel_rfl
theorem ok19 (n : Nat) : FnOk Tryd.prog TT 19 (s19 n) := fn_native (an := an19) (n := n) Tryd.func19 rfl (by kernel_rfl) tblOk env_nil follows (ev19 n)
theorem body19 : HasBody Tryd.prog 19 := ⟨_, _, Tryd.func19, rfl, by kernel_rfl⟩

-- spec_Record
def sm10 : Sm := ⟨[.val true [I, I, (.sl 37 k1), I, I, I, I]], [(false, [(.str, 0)])]⟩
def an10 : An := ⟨fun _ => none,
  fun _ => none,
  fun _ => none⟩
def s10 (n : Nat) : SmF := ⟨sm10, fun x => N.spec_Record n x.1 x.2.1 x.2.2.1 x.2.2.2.1 x.2.2.2.2.1 x.2.2.2.2.2.1 x.2.2.2.2.2.2⟩
def env10 (n : Nat) : List (FuncId × SmF) := [(6, s6 n), (14, s14 n), (19, s19 n)]
theorem ev10 (n : Nat) (x : sm10.ins.D) : evFn (find tbl) (find (env10 n)) an10 n Tryd.f10 sm10 x = N.spec_Record n x.1 x.2.1 x.2.2.1 x.2.2.2.1 x.2.2.2.2.1 x.2.2.2.2.2.1 x.2.2.2.2.2.2 := by kernel_rfl
theorem ok10 (n : Nat) : FnOk Tryd.prog TT 10 (s10 n) := fn_native (an := an10) (n := n) Tryd.func10 rfl (by kernel_rfl) tblOk (env_cons (ok6 n) body6 (env_cons (ok14 n) body14 (env_cons (ok19 n) body19 env_nil))) follows (ev10 n)
theorem body10 : HasBody Tryd.prog 10 := ⟨_, _, Tryd.func10, rfl, by kernel_rfl⟩

-- impl_in
def sm26 : Sm := ⟨[.val false [I], .val false [I], .val false [I]], [(false, [(.bool, 0)])]⟩
def an26 : An := ⟨fun _ => none,
  fun _ => none,
  fun _ => none⟩
def s26 (n : Nat) : SmF := ⟨sm26, fun x => N.impl_in x.1 x.2.1 x.2.2⟩
def env26 (n : Nat) : List (FuncId × SmF) := []
theorem ev26 (n : Nat) (x : sm26.ins.D) : evFn (find tbl) (find (env26 n)) an26 n Tryd.f26 sm26 x = N.impl_in x.1 x.2.1 x.2.2 := by kernel_rfl
theorem ok26 (n : Nat) : FnOk Tryd.prog TT 26 (s26 n) := fn_native (an := an26) (n := n) Tryd.func26 rfl (by kernel_rfl) tblOk env_nil follows (ev26 n)
theorem body26 : HasBody Tryd.prog 26 := ⟨_, _, Tryd.func26, rfl, by kernel_rfl⟩

-- impl_ItemsOk
def sm29 : Sm := ⟨[.val false [(.sl 37 k1)]], [(false, [(.bool, 0)])]⟩
def an29 : An := ⟨fun _ => none,
  fun b => match b with
    | 0 => some ([.slot 7 I], true)
    | _ => none,
  fun _ => none⟩
def s29 (n : Nat) : SmF := ⟨sm29, fun x => N.impl_ItemsOk n x⟩
def env29 (n : Nat) : List (FuncId × SmF) := [(26, s26 n)]
theorem ev29 (n : Nat) (x : sm29.ins.D) : evFn (find tbl) (find (env29 n)) an29 n Tryd.f29 sm29 x = N.impl_ItemsOk n x := by kernel_rfl
theorem ok29 (n : Nat) : FnOk Tryd.prog TT 29 (s29 n) := fn_native (an := an29) (n := n) Tryd.func29 rfl (by kernel_rfl) tblOk (env_cons (ok26 n) body26 env_nil) follows (ev29 n)
theorem body29 : HasBody Tryd.prog 29 := ⟨_, _, Tryd.func29, rfl, by kernel_rfl⟩

-- impl_orderAct
def sm25 : Sm := ⟨[.val true [I, I, (.sl 37 k1), I, I, I, I]], [(false, [(.bool, 0)])]⟩
def an25 : An := ⟨fun _ => none,
  fun _ => none,
  fun _ => none⟩
def s25 (n : Nat) : SmF := ⟨sm25, fun x => N.impl_orderAct n x.1 x.2.1 x.2.2.1 x.2.2.2.1 x.2.2.2.2.1 x.2.2.2.2.2.1 x.2.2.2.2.2.2⟩
def env25 (n : Nat) : List (FuncId × SmF) := [(26, s26 n), (29, s29 n)]
theorem ev25 (n : Nat) (x : sm25.ins.D) : evFn (find tbl) (find (env25 n)) an25 n Tryd.f25 sm25 x = N.impl_orderAct n x.1 x.2.1 x.2.2.1 x.2.2.2.1 x.2.2.2.2.1 x.2.2.2.2.2.1 x.2.2.2.2.2.2 := by kernel_rfl
theorem ok25 (n : Nat) : FnOk Tryd.prog TT 25 (s25 n) := fn_native (an := an25) (n := n) Tryd.func25 rfl (by kernel_rfl) tblOk (env_cons (ok26 n) body26 (env_cons (ok29 n) body29 env_nil)) follows (ev25 n)
theorem body25 : HasBody Tryd.prog 25 := ⟨_, _, Tryd.func25, rfl, by kernel_rfl⟩

-- impl_ActOk
def sm16 : Sm := ⟨[.val true [I, I, (.sl 37 k1), I, I, I, I]], [(false, [(.bool, 0)])]⟩
def an16 : An := ⟨fun _ => none,
  fun _ => none,
  fun _ => none⟩
def s16 (n : Nat) : SmF := ⟨sm16, fun x => N.impl_ActOk n x.1 x.2.1 x.2.2.1 x.2.2.2.1 x.2.2.2.2.1 x.2.2.2.2.2.1 x.2.2.2.2.2.2⟩
def env16 (n : Nat) : List (FuncId × SmF) := [(25, s25 n), (26, s26 n)]
theorem ev16 (n : Nat) (x : sm16.ins.D) : evFn (find tbl) (find (env16 n)) an16 n Tryd.f16 sm16 x = N.impl_ActOk n x.1 x.2.1 x.2.2.1 x.2.2.2.1 x.2.2.2.2.1 x.2.2.2.2.2.1 x.2.2.2.2.2.2 := by kernel_rfl
theorem ok16 (n : Nat) : FnOk Tryd.prog TT 16 (s16 n) := fn_native (an := an16) (n := n) Tryd.func16 rfl (by kernel_rfl) tblOk (env_cons (ok25 n) body25 (env_cons (ok26 n) body26 env_nil)) follows (ev16 n)
theorem body16 : HasBody Tryd.prog 16 := ⟨_, _, Tryd.func16, rfl, by kernel_rfl⟩

-- itoaN, by the shelf
def s17 (n : Nat) : SmF := ⟨itoaSm, fun x => itoaN x⟩
theorem ok17 (n : Nat) : FnOk Tryd.prog TT 17 (s17 n) := itoa_ok Tryd.lays171
theorem body17 : HasBody Tryd.prog 17 := ⟨_, _, Tryd.func17, rfl, by kernel_rfl⟩

-- impl_ActText
def sm8 : Sm := ⟨[.val true [I, I, (.sl 37 k1), I, I, I, I]], [(false, [(.str, 0)])]⟩
def an8 : An := ⟨fun _ => none,
  fun b => match b with
    | 1 => some ([.slot 3 .str, .slot 20 I], false)
    | _ => none,
  fun _ => none⟩
def s8 (n : Nat) : SmF := ⟨sm8, fun x => N.impl_ActText n x.1 x.2.1 x.2.2.1 x.2.2.2.1 x.2.2.2.2.1 x.2.2.2.2.2.1 x.2.2.2.2.2.2⟩
def env8 (n : Nat) : List (FuncId × SmF) := [(16, s16 n), (17, s17 n)]
theorem ev8 (n : Nat) (x : sm8.ins.D) : evFn (find tbl) (find (env8 n)) an8 n Tryd.f8 sm8 x = N.impl_ActText n x.1 x.2.1 x.2.2.1 x.2.2.2.1 x.2.2.2.2.1 x.2.2.2.2.2.1 x.2.2.2.2.2.2 := by kernel_rfl
theorem ok8 (n : Nat) : FnOk Tryd.prog TT 8 (s8 n) := fn_native (an := an8) (n := n) Tryd.func8 rfl (by kernel_rfl) tblOk (env_cons (ok16 n) body16 (env_cons (ok17 n) body17 env_nil)) follows (ev8 n)
theorem body8 : HasBody Tryd.prog 8 := ⟨_, _, Tryd.func8, rfl, by kernel_rfl⟩

-- impl_CheckOf
def sm20 : Sm := ⟨[.val false [.str]], [(false, [(I, 0)])]⟩
def an20 : An := ⟨fun _ => none,
  fun b => match b with
    | 0 => some ([.slot 3 I, .slot 7 I], false)
    | _ => none,
  fun _ => none⟩
def s20 (n : Nat) : SmF := ⟨sm20, fun x => N.impl_CheckOf n x⟩
def env20 (n : Nat) : List (FuncId × SmF) := []
theorem ev20 (n : Nat) (x : sm20.ins.D) : evFn (find tbl) (find (env20 n)) an20 n Tryd.f20 sm20 x = N.impl_CheckOf n x := by kernel_rfl
theorem ok20 (n : Nat) : FnOk Tryd.prog TT 20 (s20 n) := fn_native (an := an20) (n := n) Tryd.func20 rfl (by kernel_rfl) tblOk env_nil follows (ev20 n)
theorem body20 : HasBody Tryd.prog 20 := ⟨_, _, Tryd.func20, rfl, by kernel_rfl⟩

-- impl_Record
def sm11 : Sm := ⟨[.val true [I, I, (.sl 37 k1), I, I, I, I]], [(false, [(.str, 0)])]⟩
def an11 : An := ⟨fun _ => none,
  fun _ => none,
  fun _ => none⟩
def s11 (n : Nat) : SmF := ⟨sm11, fun x => N.impl_Record n x.1 x.2.1 x.2.2.1 x.2.2.2.1 x.2.2.2.2.1 x.2.2.2.2.2.1 x.2.2.2.2.2.2⟩
def env11 (n : Nat) : List (FuncId × SmF) := [(8, s8 n), (17, s17 n), (20, s20 n)]
theorem ev11 (n : Nat) (x : sm11.ins.D) : evFn (find tbl) (find (env11 n)) an11 n Tryd.f11 sm11 x = N.impl_Record n x.1 x.2.1 x.2.2.1 x.2.2.2.1 x.2.2.2.2.1 x.2.2.2.2.2.1 x.2.2.2.2.2.2 := by kernel_rfl
theorem ok11 (n : Nat) : FnOk Tryd.prog TT 11 (s11 n) := fn_native (an := an11) (n := n) Tryd.func11 rfl (by kernel_rfl) tblOk (env_cons (ok8 n) body8 (env_cons (ok17 n) body17 (env_cons (ok20 n) body20 env_nil))) follows (ev11 n)
theorem body11 : HasBody Tryd.prog 11 := ⟨_, _, Tryd.func11, rfl, by kernel_rfl⟩

-- laws_eqItem
def sm28 : Sm := ⟨[.val true [I, I], .val true [I, I]], [(false, [(.bool, 0)])]⟩
def an28 : An := ⟨fun _ => none,
  fun _ => none,
  fun _ => none⟩
def s28 (n : Nat) : SmF := ⟨sm28, fun x => N.laws_eqItem x.1 x.2.1 x.2.2.1 x.2.2.2⟩
def env28 (n : Nat) : List (FuncId × SmF) := []
theorem ev28 (n : Nat) (x : sm28.ins.D) : evFn (find tbl) (find (env28 n)) an28 n Tryd.f28 sm28 x = N.laws_eqItem x.1 x.2.1 x.2.2.1 x.2.2.2 := by kernel_rfl
theorem ok28 (n : Nat) : FnOk Tryd.prog TT 28 (s28 n) := fn_native (an := an28) (n := n) Tryd.func28 rfl (by kernel_rfl) tblOk env_nil follows (ev28 n)
theorem body28 : HasBody Tryd.prog 28 := ⟨_, _, Tryd.func28, rfl, by kernel_rfl⟩

-- laws_eqItemS
def sm18 : Sm := ⟨[.val false [(.sl 37 k1)], .val false [(.sl 37 k1)]], [(false, [(.bool, 0)])]⟩
def an18 : An := ⟨fun _ => none,
  fun b => match b with
    | 0 => some ([.slot 5 I], true)
    | _ => none,
  fun _ => none⟩
def s18 (n : Nat) : SmF := ⟨sm18, fun x => N.laws_eqItemS n x.1 x.2⟩
def env18 (n : Nat) : List (FuncId × SmF) := [(28, s28 n)]
theorem ev18 (n : Nat) (x : sm18.ins.D) : evFn (find tbl) (find (env18 n)) an18 n Tryd.f18 sm18 x = N.laws_eqItemS n x.1 x.2 := by kernel_rfl
theorem ok18 (n : Nat) : FnOk Tryd.prog TT 18 (s18 n) := fn_native (an := an18) (n := n) Tryd.func18 rfl (by kernel_rfl) tblOk (env_cons (ok28 n) body28 env_nil) follows (ev18 n)
theorem body18 : HasBody Tryd.prog 18 := ⟨_, _, Tryd.func18, rfl, by kernel_rfl⟩

-- laws_eqAct
def sm9 : Sm := ⟨[.val true [I, I, (.sl 37 k1), I, I, I, I], .val true [I, I, (.sl 37 k1), I, I, I, I]], [(false, [(.bool, 0)])]⟩
def an9 : An := ⟨fun _ => none,
  fun _ => none,
  fun _ => none⟩
def s9 (n : Nat) : SmF := ⟨sm9, fun x => N.laws_eqAct n x.1 x.2.1 x.2.2.1 x.2.2.2.1 x.2.2.2.2.1 x.2.2.2.2.2.1 x.2.2.2.2.2.2.1 x.2.2.2.2.2.2.2.1 x.2.2.2.2.2.2.2.2.1 x.2.2.2.2.2.2.2.2.2.1 x.2.2.2.2.2.2.2.2.2.2.1 x.2.2.2.2.2.2.2.2.2.2.2.1 x.2.2.2.2.2.2.2.2.2.2.2.2.1 x.2.2.2.2.2.2.2.2.2.2.2.2.2⟩
def env9 (n : Nat) : List (FuncId × SmF) := [(18, s18 n)]
theorem ev9 (n : Nat) (x : sm9.ins.D) : evFn (find tbl) (find (env9 n)) an9 n Tryd.f9 sm9 x = N.laws_eqAct n x.1 x.2.1 x.2.2.1 x.2.2.2.1 x.2.2.2.2.1 x.2.2.2.2.2.1 x.2.2.2.2.2.2.1 x.2.2.2.2.2.2.2.1 x.2.2.2.2.2.2.2.2.1 x.2.2.2.2.2.2.2.2.2.1 x.2.2.2.2.2.2.2.2.2.2.1 x.2.2.2.2.2.2.2.2.2.2.2.1 x.2.2.2.2.2.2.2.2.2.2.2.2.1 x.2.2.2.2.2.2.2.2.2.2.2.2.2 := by kernel_rfl
theorem ok9 (n : Nat) : FnOk Tryd.prog TT 9 (s9 n) := fn_native (an := an9) (n := n) Tryd.func9 rfl (by kernel_rfl) tblOk (env_cons (ok18 n) body18 env_nil) follows (ev9 n)
theorem body9 : HasBody Tryd.prog 9 := ⟨_, _, Tryd.func9, rfl, by kernel_rfl⟩

-- laws_FnExactRecord
def sm4 : Sm := ⟨[.val true [I, I, (.sl 46 k1), I, I, I, I]], [(false, [(.bool, 0)])]⟩
def an4 : An := ⟨fun _ => none,
  fun _ => none,
  fun _ => none⟩
def s4 (n : Nat) : SmF := ⟨sm4, fun x => N.laws_FnExactRecord n x.1 x.2.1 x.2.2.1 x.2.2.2.1 x.2.2.2.2.1 x.2.2.2.2.2.1 x.2.2.2.2.2.2⟩
def env4 (n : Nat) : List (FuncId × SmF) := [(5, s5 n), (7, s7 n), (9, s9 n), (10, s10 n), (11, s11 n)]
theorem ev4 (n : Nat) (x : sm4.ins.D) : evFn (find tbl) (find (env4 n)) an4 n Tryd.f4 sm4 x = N.laws_FnExactRecord n x.1 x.2.1 x.2.2.1 x.2.2.2.1 x.2.2.2.2.1 x.2.2.2.2.2.1 x.2.2.2.2.2.2 := by kernel_rfl
theorem ok4 (n : Nat) : FnOk Tryd.prog TT 4 (s4 n) := fn_native (an := an4) (n := n) Tryd.func4 rfl (by kernel_rfl) tblOk (env_cons (ok5 n) body5 (env_cons (ok7 n) body7 (env_cons (ok9 n) body9 (env_cons (ok10 n) body10 (env_cons (ok11 n) body11 env_nil))))) follows (ev4 n)
theorem body4 : HasBody Tryd.prog 4 := ⟨_, _, Tryd.func4, rfl, by kernel_rfl⟩
end Go.Proofs.YtcilnijdhaidjaaDoor.Ev
