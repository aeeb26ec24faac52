/- Tables of types; summaries of the functions. Conditions: none. -/
import Derived.Test.YtjbfgbgibmebfaaLib4
import Derived.Test.YtjbfgbgibmebfaaFnSweptNat
import Derived.Test.YtjbfgbgibmebfaaProg
import Derived.KernelRfl
namespace Go.Proofs.Ytjbfgbgibmebfaa.Ev
open Go Go.Ev Go.Proofs
set_option linter.unusedVariables false
set_option maxRecDepth 100000

abbrev I : L := .int .i64
/-- Package-level variables that are looked at. -/
abbrev TT : List (String × Array Value) := []
def k0 : Ls := (.cons .str (.one (.int .u64)))
def k1 : Ls := (.cons I (.one I))
def k2 : Ls := (.cons .str (.one (.int .u8)))
def k3 : Ls := (.cons I (.cons I (.one I)))
def k4 : Ls := (.cons .bool (.cons I (.one I)))
def k5 : Ls := (.cons I (.cons I (.cons .bool (.one (.int .u8)))))
def k6 : Ls := (.cons I (.cons I (.cons I (.one I))))
def k7 : Ls := (.cons I (.cons I (.cons I (.cons .bool (.one I)))))
def k8 : Ls := (.cons I (.cons I (.one (.sl 3 (.one I)))))
def k9 : Ls := (.cons I (.cons I (.one (.sl 144 k3))))
def k10 : Ls := (.cons I (.cons I (.one (.sl 270 k3))))
def k11 : Ls := (.cons (.sl 5 (.one (.int .u8))) (.cons I (.one I)))
def k12 : Ls := (.cons I (.cons I (.cons (.sl 236 k1) (.cons (.sl 97 k3) (.one I)))))
def k13 : Ls := (.cons I (.cons I (.cons (.sl 3 (.one I)) (.cons (.sl 118 k7) (.one (.sl 3 (.one I)))))))
def k14 : Ls := (.cons (.sl 3 (.one I)) (.cons I (.cons .bool (.cons I (.cons I (.cons I (.cons (.sl 3 (.one I)) (.one (.sl 201 k4)))))))))
def k15 : Ls := (.cons (.sl 3 (.one I)) (.cons I (.cons .bool (.cons I (.cons I (.cons I (.cons (.sl 3 (.one I)) (.one (.sl 179 k4)))))))))
def k16 : Ls := (.cons I (.one (.sl 90 k12)))
def k17 : Ls := (.cons I (.cons I (.cons (.sl 3 (.one I)) (.cons (.sl 118 k7) (.cons (.sl 22 (.one (.sl 3 (.one I)))) (.one (.sl 3 (.one I))))))))
def k18 : Ls := (.cons I (.cons I (.cons (.sl 3 (.one I)) (.cons (.sl 142 k9) (.cons I (.cons (.sl 90 k12) (.cons (.sl 118 k7) (.cons (.sl 95 k6) (.cons (.sl 3 (.one I)) (.cons (.sl 3 (.one I)) (.one I)))))))))))
def tbl : List (Nat × Ty) := [
  (3, ⟨false, (.one I), []⟩),
  (4, ⟨false, (.one .bool), []⟩),
  (5, ⟨false, (.one (.int .u8)), []⟩),
  (22, ⟨false, (.one (.sl 3 (.one I))), []⟩),
  (43, ⟨false, (.one (.sl 142 k9)), []⟩),
  (45, ⟨true, (.one (.sl 142 k9)), [(0, 43)]⟩),
  (46, ⟨false, (.one (.sl 90 k12)), []⟩),
  (48, ⟨true, k16, [(0, 3), (1, 46)]⟩),
  (71, ⟨false, (.one (.sl 4 (.one .bool))), []⟩),
  (85, ⟨false, (.one (.sl 5 (.one (.int .u8)))), []⟩),
  (87, ⟨false, (.one (.sl 236 k1)), []⟩),
  (88, ⟨false, (.one (.sl 97 k3)), []⟩),
  (90, ⟨true, k12, [(0, 3), (1, 3), (2, 87), (3, 88), (4, 3)]⟩),
  (97, ⟨true, k3, [(0, 3), (1, 3), (2, 3)]⟩),
  (140, ⟨false, (.one (.sl 144 k3)), []⟩),
  (142, ⟨true, k9, [(0, 3), (1, 3), (2, 140)]⟩),
  (144, ⟨true, k3, [(0, 3), (1, 3), (2, 3)]⟩),
  (226, ⟨true, k11, [(0, 85), (1, 3), (2, 3)]⟩),
  (236, ⟨true, k1, [(0, 3), (1, 3)]⟩)]
theorem tblOk : tbl.all (fun p => tyB Try.prog p.1 p.2) = true := by kernel_rfl
theorem follows : Try.prog.follows .mixedOrders = true := by kernel_rfl
-- laws_big
def sm52 : Sm := ⟨[.val false [(.sl 5 (.one (.int .u8)))]], [(false, [(.bool, 0)])]⟩
def an52 : An := ⟨fun _ => none,
  fun _ => none,
  fun _ => none⟩
def s52 (n : Nat) : SmF := ⟨sm52, fun x => N.laws_big x⟩
def env52 (n : Nat) : List (FuncId × SmF) := []
theorem ev52 (n : Nat) (x : sm52.ins.D) : evFn (find tbl) (find (env52 n)) an52 n Try.f52 sm52 x = N.laws_big x := by kernel_rfl
theorem ok52 (n : Nat) : FnOk Try.prog TT 52 (s52 n) := fn_native (an := an52) (n := n) Try.func52 rfl (by kernel_rfl) tblOk env_nil follows (ev52 n)
theorem body52 : HasBody Try.prog 52 := ⟨_, _, Try.func52, rfl, by kernel_rfl⟩

-- spec_l1New
def sm139 : Sm := ⟨[.val false [(.sl 5 (.one (.int .u8)))]], [(false, [((.sl 5 (.one (.int .u8))), 0), (I, 0), (I, 0)])]⟩
def an139 : An := ⟨fun _ => none,
  fun b => match b with
    | 0 => some ([.slot 3 I, .slot 4 I], false)
    | _ => none,
  fun _ => none⟩
def s139 (n : Nat) : SmF := ⟨sm139, fun x => N.spec_l1New n x⟩
def env139 (n : Nat) : List (FuncId × SmF) := []
theorem ev139 (n : Nat) (x : sm139.ins.D) : evFn (find tbl) (find (env139 n)) an139 n Try.f139 sm139 x = N.spec_l1New n x := by kernel_rfl
theorem ok139 (n : Nat) : FnOk Try.prog TT 139 (s139 n) := fn_native (an := an139) (n := n) Try.func139 rfl (by kernel_rfl) tblOk env_nil follows (ev139 n)
theorem body139 : HasBody Try.prog 139 := ⟨_, _, Try.func139, rfl, by kernel_rfl⟩

-- spec_l1Size
def sm144 : Sm := ⟨[.val false [(.sl 5 (.one (.int .u8)))], .val false [I]], [(false, [(I, 0)])]⟩
def an144 : An := ⟨fun _ => none,
  fun _ => none,
  fun _ => none⟩
def s144 (n : Nat) : SmF := ⟨sm144, fun x => N.spec_l1Size x.1 x.2⟩
def env144 (n : Nat) : List (FuncId × SmF) := []
theorem ev144 (n : Nat) (x : sm144.ins.D) : evFn (find tbl) (find (env144 n)) an144 n Try.f144 sm144 x = N.spec_l1Size x.1 x.2 := by kernel_rfl
theorem ok144 (n : Nat) : FnOk Try.prog TT 144 (s144 n) := fn_native (an := an144) (n := n) Try.func144 rfl (by kernel_rfl) tblOk env_nil follows (ev144 n)
theorem body144 : HasBody Try.prog 144 := ⟨_, _, Try.func144, rfl, by kernel_rfl⟩

-- spec_l1Byte
def sm205 : Sm := ⟨[.box [((.sl 5 (.one (.int .u8))), 0), (I, 0), (I, 0)]], [(false, [(I, 0)])]⟩
def an205 : An := ⟨fun _ => none,
  fun _ => none,
  fun b => match b with
    | 12 => some ([.slot 3 I, .box 0 [some ((.sl 5 (.one (.int .u8))), 0), some (I, 0), some (I, 0)]], false)
    | _ => none⟩
def s205 (n : Nat) : SmF := ⟨sm205, fun x => N.spec_l1Byte x.1 x.2.1 x.2.2⟩
def env205 (n : Nat) : List (FuncId × SmF) := []
theorem ev205 (n : Nat) (x : sm205.ins.D) : evFn (find tbl) (find (env205 n)) an205 n Try.f205 sm205 x = N.spec_l1Byte x.1 x.2.1 x.2.2 := by kernel_rfl
theorem ok205 (n : Nat) : FnOk Try.prog TT 205 (s205 n) := fn_native (an := an205) (n := n) Try.func205 rfl (by kernel_rfl) tblOk env_nil follows (ev205 n)
theorem body205 : HasBody Try.prog 205 := ⟨_, _, Try.func205, rfl, by kernel_rfl⟩

-- spec_l1Below
def sm141 : Sm := ⟨[.box [((.sl 5 (.one (.int .u8))), 0), (I, 0), (I, 0)], .val false [I]], [(false, [(I, 0)])]⟩
def an141 : An := ⟨fun _ => none,
  fun _ => none,
  fun _ => none⟩
def s141 (n : Nat) : SmF := ⟨sm141, fun x => N.spec_l1Below x.1 x.2.1 x.2.2.1 x.2.2.2⟩
def env141 (n : Nat) : List (FuncId × SmF) := [(205, s205 n)]
theorem ev141 (n : Nat) (x : sm141.ins.D) : evFn (find tbl) (find (env141 n)) an141 n Try.f141 sm141 x = N.spec_l1Below x.1 x.2.1 x.2.2.1 x.2.2.2 := by kernel_rfl
theorem ok141 (n : Nat) : FnOk Try.prog TT 141 (s141 n) := fn_native (an := an141) (n := n) Try.func141 rfl (by kernel_rfl) tblOk (env_cons (ok205 n) body205 env_nil) follows (ev141 n)
theorem body141 : HasBody Try.prog 141 := ⟨_, _, Try.func141, rfl, by kernel_rfl⟩

-- spec_l1Once
def sm160 : Sm := ⟨[.box [((.sl 5 (.one (.int .u8))), 0), (I, 0), (I, 0)], .val false [I]], [(false, [(.bool, 0)])]⟩
def an160 : An := ⟨fun _ => none,
  fun _ => none,
  fun _ => none⟩
def s160 (n : Nat) : SmF := ⟨sm160, fun x => N.spec_l1Once x.1 x.2.1 x.2.2.1 x.2.2.2⟩
def env160 (n : Nat) : List (FuncId × SmF) := [(141, s141 n)]
theorem ev160 (n : Nat) (x : sm160.ins.D) : evFn (find tbl) (find (env160 n)) an160 n Try.f160 sm160 x = N.spec_l1Once x.1 x.2.1 x.2.2.1 x.2.2.2 := by kernel_rfl
theorem ok160 (n : Nat) : FnOk Try.prog TT 160 (s160 n) := fn_native (an := an160) (n := n) Try.func160 rfl (by kernel_rfl) tblOk (env_cons (ok141 n) body141 env_nil) follows (ev160 n)
theorem body160 : HasBody Try.prog 160 := ⟨_, _, Try.func160, rfl, by kernel_rfl⟩

-- spec_l1Int
def sm208 : Sm := ⟨[.box [((.sl 5 (.one (.int .u8))), 0), (I, 0), (I, 0)], .val false [(.sl 3 (.one I))]], [(false, [(I, 0)])]⟩
def an208 : An := ⟨fun _ => none,
  fun _ => none,
  fun _ => none⟩
def s208 (n : Nat) : SmF := ⟨sm208, fun x => N.spec_l1Int x.1 x.2.1 x.2.2.1 x.2.2.2⟩
def env208 (n : Nat) : List (FuncId × SmF) := [(141, s141 n)]
theorem ev208 (n : Nat) (x : sm208.ins.D) : evFn (find tbl) (find (env208 n)) an208 n Try.f208 sm208 x = N.spec_l1Int x.1 x.2.1 x.2.2.1 x.2.2.2 := by kernel_rfl
theorem ok208 (n : Nat) : FnOk Try.prog TT 208 (s208 n) := fn_native (an := an208) (n := n) Try.func208 rfl (by kernel_rfl) tblOk (env_cons (ok141 n) body141 env_nil) follows (ev208 n)
theorem body208 : HasBody Try.prog 208 := ⟨_, _, Try.func208, rfl, by kernel_rfl⟩

-- spec_l5Draw
def sm201 : Sm := ⟨[.box [((.sl 5 (.one (.int .u8))), 0), (I, 0), (I, 0)]], [(true, [((.sl 142 k9), 2)])]⟩
def an201 : An := ⟨fun _ => none,
  fun b => match b with
    | 0 => some ([.slot 4 I, .box 0 [some ((.sl 5 (.one (.int .u8))), 0), some (I, 0), some (I, 0)], .box 3 [some ((.sl 142 k9), 2)]], false)
    | 2 => some ([.slot 6 I, .box 0 [some ((.sl 5 (.one (.int .u8))), 0), some (I, 0), some (I, 0)], .box 5 [some (I, 0), some (I, 0), some ((.sl 144 k3), 2)]], false)
    | _ => none,
  fun b => match b with
    | 7 => some ([.box 0 [some ((.sl 5 (.one (.int .u8))), 0), some (I, 0), some (I, 0)], .box 3 [some ((.sl 142 k9), 2)]], false)
    | 13 => some ([.box 0 [some ((.sl 5 (.one (.int .u8))), 0), some (I, 0), some (I, 0)], .box 5 [some (I, 0), some (I, 0), some ((.sl 144 k3), 2)]], false)
    | _ => none⟩
def s201 (n : Nat) : SmF := ⟨sm201, fun x => N.spec_l5Draw n x.1 x.2.1 x.2.2⟩
def env201 (n : Nat) : List (FuncId × SmF) := [(141, s141 n), (160, s160 n), (208, s208 n)]
theorem ev201 (n : Nat) (x : sm201.ins.D) : evFn (find tbl) (find (env201 n)) an201 n Try.f201 sm201 x = N.spec_l5Draw n x.1 x.2.1 x.2.2 := by kernel_rfl
theorem ok201 (n : Nat) : FnOk Try.prog TT 201 (s201 n) := fn_native (an := an201) (n := n) Try.func201 rfl (by kernel_rfl) tblOk (env_cons (ok141 n) body141 (env_cons (ok160 n) body160 (env_cons (ok208 n) body208 env_nil))) follows (ev201 n)
theorem body201 : HasBody Try.prog 201 := ⟨_, _, Try.func201, rfl, by kernel_rfl⟩

-- spec_l11CopyOrder
def sm262 : Sm := ⟨[.val true [I, I, (.sl 236 k1), (.sl 97 k3), I]], [(true, [(I, 0), (I, 0), ((.sl 236 k1), 2), ((.sl 97 k3), 2), (I, 0)])]⟩
def an262 : An := ⟨fun _ => none,
  fun _ => none,
  fun _ => none⟩
def s262 (n : Nat) : SmF := ⟨sm262, fun x => N.spec_l11CopyOrder x.1 x.2.1 x.2.2.1 x.2.2.2.1 x.2.2.2.2⟩
def env262 (n : Nat) : List (FuncId × SmF) := []
theorem ev262 (n : Nat) (x : sm262.ins.D) : evFn (find tbl) (find (env262 n)) an262 n Try.f262 sm262 x = N.spec_l11CopyOrder x.1 x.2.1 x.2.2.1 x.2.2.2.1 x.2.2.2.2 := by kernel_rfl
theorem ok262 (n : Nat) : FnOk Try.prog TT 262 (s262 n) := fn_native (an := an262) (n := n) Try.func262 rfl (by kernel_rfl) tblOk env_nil follows (ev262 n)
theorem body262 : HasBody Try.prog 262 := ⟨_, _, Try.func262, rfl, by kernel_rfl⟩

-- spec_l11Copy
def sm239 : Sm := ⟨[.val true [I, (.sl 90 k12)]], [(true, [(I, 0), ((.sl 90 k12), 2)])]⟩
def an239 : An := ⟨fun _ => none,
  fun b => match b with
    | 0 => some ([.slot 4 I, .box 3 [some (I, 0), some ((.sl 90 k12), 2)]], false)
    | _ => none,
  fun _ => none⟩
def s239 (n : Nat) : SmF := ⟨sm239, fun x => N.spec_l11Copy n x.1 x.2⟩
def env239 (n : Nat) : List (FuncId × SmF) := [(262, s262 n)]
theorem ev239 (n : Nat) (x : sm239.ins.D) : evFn (find tbl) (find (env239 n)) an239 n Try.f239 sm239 x = N.spec_l11Copy n x.1 x.2 := by kernel_rfl
theorem ok239 (n : Nat) : FnOk Try.prog TT 239 (s239 n) := fn_native (an := an239) (n := n) Try.func239 rfl (by kernel_rfl) tblOk (env_cons (ok262 n) body262 env_nil) follows (ev239 n)
theorem body239 : HasBody Try.prog 239 := ⟨_, _, Try.func239, rfl, by kernel_rfl⟩

-- spec_l11Find
def sm240 : Sm := ⟨[.val true [I, (.sl 90 k12)], .val false [I]], [(false, [(I, 0)])]⟩
def an240 : An := ⟨fun _ => none,
  fun b => match b with
    | 0 => some ([.slot 5 I], true)
    | _ => none,
  fun _ => none⟩
def s240 (n : Nat) : SmF := ⟨sm240, fun x => N.spec_l11Find n x.1 x.2.1 x.2.2⟩
def env240 (n : Nat) : List (FuncId × SmF) := []
theorem ev240 (n : Nat) (x : sm240.ins.D) : evFn (find tbl) (find (env240 n)) an240 n Try.f240 sm240 x = N.spec_l11Find n x.1 x.2.1 x.2.2 := by kernel_rfl
theorem ok240 (n : Nat) : FnOk Try.prog TT 240 (s240 n) := fn_native (an := an240) (n := n) Try.func240 rfl (by kernel_rfl) tblOk env_nil follows (ev240 n)
theorem body240 : HasBody Try.prog 240 := ⟨_, _, Try.func240, rfl, by kernel_rfl⟩

-- spec_l1In
def sm102 : Sm := ⟨[.val false [I], .val false [I], .val false [I]], [(false, [(.bool, 0)])]⟩
def an102 : An := ⟨fun _ => none,
  fun _ => none,
  fun _ => none⟩
def s102 (n : Nat) : SmF := ⟨sm102, fun x => N.spec_l1In x.1 x.2.1 x.2.2⟩
def env102 (n : Nat) : List (FuncId × SmF) := []
theorem ev102 (n : Nat) (x : sm102.ins.D) : evFn (find tbl) (find (env102 n)) an102 n Try.f102 sm102 x = N.spec_l1In x.1 x.2.1 x.2.2 := by kernel_rfl
theorem ok102 (n : Nat) : FnOk Try.prog TT 102 (s102 n) := fn_native (an := an102) (n := n) Try.func102 rfl (by kernel_rfl) tblOk env_nil follows (ev102 n)
theorem body102 : HasBody Try.prog 102 := ⟨_, _, Try.func102, rfl, by kernel_rfl⟩

-- spec_l5Stacks
def sm171 : Sm := ⟨[.val false [(.sl 144 k3)]], [(false, [(.bool, 0)])]⟩
def an171 : An := ⟨fun _ => none,
  fun b => match b with
    | 0 => some ([.slot 3 I], true)
    | _ => none,
  fun _ => none⟩
def s171 (n : Nat) : SmF := ⟨sm171, fun x => N.spec_l5Stacks n x⟩
def env171 (n : Nat) : List (FuncId × SmF) := [(102, s102 n)]
theorem ev171 (n : Nat) (x : sm171.ins.D) : evFn (find tbl) (find (env171 n)) an171 n Try.f171 sm171 x = N.spec_l5Stacks n x := by kernel_rfl
theorem ok171 (n : Nat) : FnOk Try.prog TT 171 (s171 n) := fn_native (an := an171) (n := n) Try.func171 rfl (by kernel_rfl) tblOk (env_cons (ok102 n) body102 env_nil) follows (ev171 n)
theorem body171 : HasBody Try.prog 171 := ⟨_, _, Try.func171, rfl, by kernel_rfl⟩

-- spec_StockOk
def sm78 : Sm := ⟨[.val true [(.sl 142 k9)]], [(false, [(.bool, 0)])]⟩
def an78 : An := ⟨fun _ => none,
  fun b => match b with
    | 0 => some ([.slot 3 I], true)
    | 2 => some ([.slot 5 I], true)
    | _ => none,
  fun _ => none⟩
def s78 (n : Nat) : SmF := ⟨sm78, fun x => N.spec_StockOk n x⟩
def env78 (n : Nat) : List (FuncId × SmF) := [(102, s102 n), (171, s171 n)]
theorem ev78 (n : Nat) (x : sm78.ins.D) : evFn (find tbl) (find (env78 n)) an78 n Try.f78 sm78 x = N.spec_StockOk n x := by kernel_rfl
theorem ok78 (n : Nat) : FnOk Try.prog TT 78 (s78 n) := fn_native (an := an78) (n := n) Try.func78 rfl (by kernel_rfl) tblOk (env_cons (ok102 n) body102 (env_cons (ok171 n) body171 env_nil)) follows (ev78 n)
theorem body78 : HasBody Try.prog 78 := ⟨_, _, Try.func78, rfl, by kernel_rfl⟩

-- spec_ItemsOk
def sm265 : Sm := ⟨[.val false [(.sl 236 k1)]], [(false, [(.bool, 0)])]⟩
def an265 : An := ⟨fun _ => none,
  fun b => match b with
    | 0 => some ([.slot 3 I], true)
    | _ => none,
  fun _ => none⟩
def s265 (n : Nat) : SmF := ⟨sm265, fun x => N.spec_ItemsOk n x⟩
def env265 (n : Nat) : List (FuncId × SmF) := [(102, s102 n)]
theorem ev265 (n : Nat) (x : sm265.ins.D) : evFn (find tbl) (find (env265 n)) an265 n Try.f265 sm265 x = N.spec_ItemsOk n x := by kernel_rfl
theorem ok265 (n : Nat) : FnOk Try.prog TT 265 (s265 n) := fn_native (an := an265) (n := n) Try.func265 rfl (by kernel_rfl) tblOk (env_cons (ok102 n) body102 env_nil) follows (ev265 n)
theorem body265 : HasBody Try.prog 265 := ⟨_, _, Try.func265, rfl, by kernel_rfl⟩

-- spec_l11Sum
def sm284 : Sm := ⟨[.val false [(.sl 97 k3)], .val false [I]], [(false, [(I, 0)])]⟩
def an284 : An := ⟨fun _ => none,
  fun b => match b with
    | 0 => some ([.slot 5 I, .slot 6 I], false)
    | _ => none,
  fun b => match b with
    | 7 => some ([.slot 5 I], false)
    | _ => none⟩
def s284 (n : Nat) : SmF := ⟨sm284, fun x => N.spec_l11Sum n x.1 x.2⟩
def env284 (n : Nat) : List (FuncId × SmF) := []
theorem ev284 (n : Nat) (x : sm284.ins.D) : evFn (find tbl) (find (env284 n)) an284 n Try.f284 sm284 x = N.spec_l11Sum n x.1 x.2 := by kernel_rfl
theorem ok284 (n : Nat) : FnOk Try.prog TT 284 (s284 n) := fn_native (an := an284) (n := n) Try.func284 rfl (by kernel_rfl) tblOk env_nil follows (ev284 n)
theorem body284 : HasBody Try.prog 284 := ⟨_, _, Try.func284, rfl, by kernel_rfl⟩

-- spec_l11Order
def sm263 : Sm := ⟨[.val true [I, I, (.sl 236 k1), (.sl 97 k3), I]], [(false, [(.bool, 0)])]⟩
def an263 : An := ⟨fun _ => none,
  fun b => match b with
    | 0 => some ([.slot 3 I, .slot 4 I], false)
    | 2 => some ([.slot 3 I, .slot 5 I], true)
    | 4 => some ([.slot 7 I], true)
    | _ => none,
  fun _ => none⟩
def s263 (n : Nat) : SmF := ⟨sm263, fun x => N.spec_l11Order n x.1 x.2.1 x.2.2.1 x.2.2.2.1 x.2.2.2.2⟩
def env263 (n : Nat) : List (FuncId × SmF) := [(102, s102 n), (265, s265 n), (284, s284 n)]
theorem ev263 (n : Nat) (x : sm263.ins.D) : evFn (find tbl) (find (env263 n)) an263 n Try.f263 sm263 x = N.spec_l11Order n x.1 x.2.1 x.2.2.1 x.2.2.2.1 x.2.2.2.2 := by kernel_rfl
theorem ok263 (n : Nat) : FnOk Try.prog TT 263 (s263 n) := fn_native (an := an263) (n := n) Try.func263 rfl (by kernel_rfl) tblOk (env_cons (ok102 n) body102 (env_cons (ok265 n) body265 (env_cons (ok284 n) body284 env_nil))) follows (ev263 n)
theorem body263 : HasBody Try.prog 263 := ⟨_, _, Try.func263, rfl, by kernel_rfl⟩

-- spec_BookOk
def sm241 : Sm := ⟨[.val true [I, (.sl 90 k12)]], [(false, [(.bool, 0)])]⟩
def an241 : An := ⟨fun _ => none,
  fun b => match b with
    | 0 => some ([.slot 3 I], true)
    | _ => none,
  fun _ => none⟩
def s241 (n : Nat) : SmF := ⟨sm241, fun x => N.spec_BookOk n x.1 x.2⟩
def env241 (n : Nat) : List (FuncId × SmF) := [(102, s102 n), (263, s263 n)]
theorem ev241 (n : Nat) (x : sm241.ins.D) : evFn (find tbl) (find (env241 n)) an241 n Try.f241 sm241 x = N.spec_BookOk n x.1 x.2 := by kernel_rfl
theorem ok241 (n : Nat) : FnOk Try.prog TT 241 (s241 n) := fn_native (an := an241) (n := n) Try.func241 rfl (by kernel_rfl) tblOk (env_cons (ok102 n) body102 (env_cons (ok263 n) body263 env_nil)) follows (ev241 n)
theorem body241 : HasBody Try.prog 241 := ⟨_, _, Try.func241, rfl, by kernel_rfl⟩

-- spec_l5Copy
def sm101 : Sm := ⟨[.val true [(.sl 142 k9)]], [(true, [((.sl 142 k9), 2)])]⟩
def an101 : An := ⟨fun _ => none,
  fun b => match b with
    | 0 => some ([.slot 4 I, .box 3 [some ((.sl 142 k9), 2)]], false)
    | _ => none,
  fun _ => none⟩
def s101 (n : Nat) : SmF := ⟨sm101, fun x => N.spec_l5Copy n x⟩
def env101 (n : Nat) : List (FuncId × SmF) := []
theorem ev101 (n : Nat) (x : sm101.ins.D) : evFn (find tbl) (find (env101 n)) an101 n Try.f101 sm101 x = N.spec_l5Copy n x := by kernel_rfl
theorem ok101 (n : Nat) : FnOk Try.prog TT 101 (s101 n) := fn_native (an := an101) (n := n) Try.func101 rfl (by kernel_rfl) tblOk env_nil follows (ev101 n)
theorem body101 : HasBody Try.prog 101 := ⟨_, _, Try.func101, rfl, by kernel_rfl⟩

-- spec_l5Pod
def sm129 : Sm := ⟨[.val true [(.sl 142 k9)], .val false [I]], [(false, [(I, 0)])]⟩
def an129 : An := ⟨fun _ => none,
  fun b => match b with
    | 0 => some ([.slot 5 I], true)
    | _ => none,
  fun _ => none⟩
def s129 (n : Nat) : SmF := ⟨sm129, fun x => N.spec_l5Pod n x.1 x.2⟩
def env129 (n : Nat) : List (FuncId × SmF) := []
theorem ev129 (n : Nat) (x : sm129.ins.D) : evFn (find tbl) (find (env129 n)) an129 n Try.f129 sm129 x = N.spec_l5Pod n x.1 x.2 := by kernel_rfl
theorem ok129 (n : Nat) : FnOk Try.prog TT 129 (s129 n) := fn_native (an := an129) (n := n) Try.func129 rfl (by kernel_rfl) tblOk env_nil follows (ev129 n)
theorem body129 : HasBody Try.prog 129 := ⟨_, _, Try.func129, rfl, by kernel_rfl⟩

-- spec_l5Stack
def sm180 : Sm := ⟨[.val true [I, I, (.sl 144 k3)], .val false [I]], [(true, [(I, 0), (I, 0), (I, 0)])]⟩
def an180 : An := ⟨fun _ => none,
  fun b => match b with
    | 0 => some ([.slot 5 I, .box 4 [some (I, 0), some (I, 0), some (I, 0)]], true)
    | _ => none,
  fun _ => none⟩
def s180 (n : Nat) : SmF := ⟨sm180, fun x => N.spec_l5Stack n x.1 x.2.1 x.2.2.1 x.2.2.2⟩
def env180 (n : Nat) : List (FuncId × SmF) := []
theorem ev180 (n : Nat) (x : sm180.ins.D) : evFn (find tbl) (find (env180 n)) an180 n Try.f180 sm180 x = N.spec_l5Stack n x.1 x.2.1 x.2.2.1 x.2.2.2 := by kernel_rfl
theorem ok180 (n : Nat) : FnOk Try.prog TT 180 (s180 n) := fn_native (an := an180) (n := n) Try.func180 rfl (by kernel_rfl) tblOk env_nil follows (ev180 n)
theorem body180 : HasBody Try.prog 180 := ⟨_, _, Try.func180, rfl, by kernel_rfl⟩

-- spec_l5Call
def sm291 : Sm := ⟨[.val true [(.sl 142 k9)], .val false [I], .val false [I], .val false [I]], [(false, [(I, 0)]), (true, [(I, 0), (I, 0), (I, 0)]), (false, [(I, 0)])]⟩
def an291 : An := ⟨fun _ => none,
  fun _ => none,
  fun _ => none⟩
def s291 (n : Nat) : SmF := ⟨sm291, fun x => N.spec_l5Call n x.1 x.2.1 x.2.2.1 x.2.2.2⟩
def env291 (n : Nat) : List (FuncId × SmF) := [(78, s78 n), (102, s102 n), (129, s129 n), (180, s180 n)]
theorem ev291 (n : Nat) (x : sm291.ins.D) : evFn (find tbl) (find (env291 n)) an291 n Try.f291 sm291 x = N.spec_l5Call n x.1 x.2.1 x.2.2.1 x.2.2.2 := by kernel_rfl
theorem ok291 (n : Nat) : FnOk Try.prog TT 291 (s291 n) := fn_native (an := an291) (n := n) Try.func291 rfl (by kernel_rfl) tblOk (env_cons (ok78 n) body78 (env_cons (ok102 n) body102 (env_cons (ok129 n) body129 (env_cons (ok180 n) body180 env_nil)))) follows (ev291 n)
theorem body291 : HasBody Try.prog 291 := ⟨_, _, Try.func291, rfl, by kernel_rfl⟩

-- spec_l5With
def sm294 : Sm := ⟨[.val false [(.sl 144 k3)], .val true [I, I, I]], [(false, [((.sl 144 k3), 2)])]⟩
def an294 : An := ⟨fun _ => none,
  fun b => match b with
    | 0 => some ([.own 5 144 k3 2 false, .slot 6 .bool, .slot 7 I], false)
    | _ => none,
  fun b => match b with
    | 7 => some ([.own 5 144 k3 2 false, .slot 6 .bool], false)
    | 21 => some ([.own 5 144 k3 2 false, .slot 6 .bool], false)
    | 36 => some ([.own 5 144 k3 2 false], false)
    | _ => none⟩
def s294 (n : Nat) : SmF := ⟨sm294, fun x => N.spec_l5With n x.1 x.2.1 x.2.2.1 x.2.2.2⟩
def env294 (n : Nat) : List (FuncId × SmF) := []
theorem ev294 (n : Nat) (x : sm294.ins.D) : evFn (find tbl) (find (env294 n)) an294 n Try.f294 sm294 x = N.spec_l5With n x.1 x.2.1 x.2.2.1 x.2.2.2 := by kernel_rfl
theorem ok294 (n : Nat) : FnOk Try.prog TT 294 (s294 n) := fn_native (an := an294) (n := n) Try.func294 rfl (by kernel_rfl) tblOk env_nil follows (ev294 n)
theorem body294 : HasBody Try.prog 294 := ⟨_, _, Try.func294, rfl, by kernel_rfl⟩

-- spec_l5Put
def sm292 : Sm := ⟨[.val true [(.sl 142 k9)], .val false [I], .val true [I, I, I]], [(true, [((.sl 142 k9), 2)])]⟩
def an292 : An := ⟨fun _ => none,
  fun _ => none,
  fun _ => none⟩
def s292 (n : Nat) : SmF := ⟨sm292, fun x => N.spec_l5Put n x.1 x.2.1 x.2.2.1 x.2.2.2.1 x.2.2.2.2⟩
def env292 (n : Nat) : List (FuncId × SmF) := [(101, s101 n), (294, s294 n)]
theorem ev292 (n : Nat) (x : sm292.ins.D) : evFn (find tbl) (find (env292 n)) an292 n Try.f292 sm292 x = N.spec_l5Put n x.1 x.2.1 x.2.2.1 x.2.2.2.1 x.2.2.2.2 := by kernel_rfl
theorem ok292 (n : Nat) : FnOk Try.prog TT 292 (s292 n) := fn_native (an := an292) (n := n) Try.func292 rfl (by kernel_rfl) tblOk (env_cons (ok101 n) body101 (env_cons (ok294 n) body294 env_nil)) follows (ev292 n)
theorem body292 : HasBody Try.prog 292 := ⟨_, _, Try.func292, rfl, by kernel_rfl⟩

-- spec_Hold
def sm285 : Sm := ⟨[.val true [(.sl 142 k9)], .val false [I], .val false [I], .val false [I]], [(true, [((.sl 142 k9), 2)]), (false, [(I, 0)])]⟩
def an285 : An := ⟨fun _ => none,
  fun _ => none,
  fun _ => none⟩
def s285 (n : Nat) : SmF := ⟨sm285, fun x => N.spec_Hold n x.1 x.2.1 x.2.2.1 x.2.2.2⟩
def env285 (n : Nat) : List (FuncId × SmF) := [(101, s101 n), (291, s291 n), (292, s292 n)]
theorem ev285 (n : Nat) (x : sm285.ins.D) : evFn (find tbl) (find (env285 n)) an285 n Try.f285 sm285 x = N.spec_Hold n x.1 x.2.1 x.2.2.1 x.2.2.2 := by kernel_rfl
theorem ok285 (n : Nat) : FnOk Try.prog TT 285 (s285 n) := fn_native (an := an285) (n := n) Try.func285 rfl (by kernel_rfl) tblOk (env_cons (ok101 n) body101 (env_cons (ok291 n) body291 (env_cons (ok292 n) body292 env_nil))) follows (ev285 n)
theorem body285 : HasBody Try.prog 285 := ⟨_, _, Try.func285, rfl, by kernel_rfl⟩

-- spec_Release
def sm286 : Sm := ⟨[.val true [(.sl 142 k9)], .val false [I], .val false [I], .val false [I]], [(true, [((.sl 142 k9), 2)]), (false, [(I, 0)])]⟩
def an286 : An := ⟨fun _ => none,
  fun _ => none,
  fun _ => none⟩
def s286 (n : Nat) : SmF := ⟨sm286, fun x => N.spec_Release n x.1 x.2.1 x.2.2.1 x.2.2.2⟩
def env286 (n : Nat) : List (FuncId × SmF) := [(101, s101 n), (291, s291 n), (292, s292 n)]
theorem ev286 (n : Nat) (x : sm286.ins.D) : evFn (find tbl) (find (env286 n)) an286 n Try.f286 sm286 x = N.spec_Release n x.1 x.2.1 x.2.2.1 x.2.2.2 := by kernel_rfl
theorem ok286 (n : Nat) : FnOk Try.prog TT 286 (s286 n) := fn_native (an := an286) (n := n) Try.func286 rfl (by kernel_rfl) tblOk (env_cons (ok101 n) body101 (env_cons (ok291 n) body291 (env_cons (ok292 n) body292 env_nil))) follows (ev286 n)
theorem body286 : HasBody Try.prog 286 := ⟨_, _, Try.func286, rfl, by kernel_rfl⟩

-- spec_TakeOut
def sm287 : Sm := ⟨[.val true [(.sl 142 k9)], .val false [I], .val false [I], .val false [I]], [(true, [((.sl 142 k9), 2)]), (false, [(I, 0)])]⟩
def an287 : An := ⟨fun _ => none,
  fun _ => none,
  fun _ => none⟩
def s287 (n : Nat) : SmF := ⟨sm287, fun x => N.spec_TakeOut n x.1 x.2.1 x.2.2.1 x.2.2.2⟩
def env287 (n : Nat) : List (FuncId × SmF) := [(101, s101 n), (291, s291 n), (292, s292 n)]
theorem ev287 (n : Nat) (x : sm287.ins.D) : evFn (find tbl) (find (env287 n)) an287 n Try.f287 sm287 x = N.spec_TakeOut n x.1 x.2.1 x.2.2.1 x.2.2.2 := by kernel_rfl
theorem ok287 (n : Nat) : FnOk Try.prog TT 287 (s287 n) := fn_native (an := an287) (n := n) Try.func287 rfl (by kernel_rfl) tblOk (env_cons (ok101 n) body101 (env_cons (ok291 n) body291 (env_cons (ok292 n) body292 env_nil))) follows (ev287 n)
theorem body287 : HasBody Try.prog 287 := ⟨_, _, Try.func287, rfl, by kernel_rfl⟩

-- spec_l6Each
def sm264 : Sm := ⟨[.val true [(.sl 142 k9)], .val false [(.sl 97 k3)], .val false [I]], [(true, [((.sl 142 k9), 2)]), (false, [(.bool, 0)])]⟩
def an264 : An := ⟨fun _ => none,
  fun b => match b with
    | 0 => some ([.slot 9 I, .box 6 [some ((.sl 142 k9), 2)], .box 8 [some ((.sl 142 k9), 2)]], true)
    | _ => none,
  fun b => match b with
    | 24 => some ([.slot 11 I, .box 8 [some ((.sl 142 k9), 2)]], false)
    | _ => none⟩
def s264 (n : Nat) : SmF := ⟨sm264, fun x => N.spec_l6Each n x.1 x.2.1 x.2.2⟩
def env264 (n : Nat) : List (FuncId × SmF) := [(101, s101 n), (285, s285 n), (286, s286 n), (287, s287 n)]
theorem ev264 (n : Nat) (x : sm264.ins.D) : evFn (find tbl) (find (env264 n)) an264 n Try.f264 sm264 x = N.spec_l6Each n x.1 x.2.1 x.2.2 := by kernel_rfl
theorem ok264 (n : Nat) : FnOk Try.prog TT 264 (s264 n) := fn_native (an := an264) (n := n) Try.func264 rfl (by kernel_rfl) tblOk (env_cons (ok101 n) body101 (env_cons (ok285 n) body285 (env_cons (ok286 n) body286 (env_cons (ok287 n) body287 env_nil)))) follows (ev264 n)
theorem body264 : HasBody Try.prog 264 := ⟨_, _, Try.func264, rfl, by kernel_rfl⟩

-- spec_ReleaseAll
def sm242 : Sm := ⟨[.val true [(.sl 142 k9)], .val false [(.sl 97 k3)]], [(true, [((.sl 142 k9), 2)]), (false, [(.bool, 0)])]⟩
def an242 : An := ⟨fun _ => none,
  fun _ => none,
  fun _ => none⟩
def s242 (n : Nat) : SmF := ⟨sm242, fun x => N.spec_ReleaseAll n x.1 x.2⟩
def env242 (n : Nat) : List (FuncId × SmF) := [(264, s264 n)]
theorem ev242 (n : Nat) (x : sm242.ins.D) : evFn (find tbl) (find (env242 n)) an242 n Try.f242 sm242 x = N.spec_ReleaseAll n x.1 x.2 := by kernel_rfl
theorem ok242 (n : Nat) : FnOk Try.prog TT 242 (s242 n) := fn_native (an := an242) (n := n) Try.func242 rfl (by kernel_rfl) tblOk (env_cons (ok264 n) body264 env_nil) follows (ev242 n)
theorem body242 : HasBody Try.prog 242 := ⟨_, _, Try.func242, rfl, by kernel_rfl⟩

-- spec_Withdraw
def sm202 : Sm := ⟨[.val true [(.sl 142 k9)], .val true [I, (.sl 90 k12)], .val false [I]], [(true, [((.sl 142 k9), 2)]), (true, [(I, 0), ((.sl 90 k12), 2)]), (false, [(.bool, 0)])]⟩
def an202 : An := ⟨fun _ => none,
  fun _ => none,
  fun _ => none⟩
def s202 (n : Nat) : SmF := ⟨sm202, fun x => N.spec_Withdraw n x.1 x.2.1 x.2.2.1 x.2.2.2⟩
def env202 (n : Nat) : List (FuncId × SmF) := [(78, s78 n), (101, s101 n), (239, s239 n), (240, s240 n), (241, s241 n), (242, s242 n)]
theorem ev202 (n : Nat) (x : sm202.ins.D) : evFn (find tbl) (find (env202 n)) an202 n Try.f202 sm202 x = N.spec_Withdraw n x.1 x.2.1 x.2.2.1 x.2.2.2 := by kernel_rfl
theorem ok202 (n : Nat) : FnOk Try.prog TT 202 (s202 n) := fn_native (an := an202) (n := n) Try.func202 rfl (by kernel_rfl) tblOk (env_cons (ok78 n) body78 (env_cons (ok101 n) body101 (env_cons (ok239 n) body239 (env_cons (ok240 n) body240 (env_cons (ok241 n) body241 (env_cons (ok242 n) body242 env_nil)))))) follows (ev202 n)
theorem body202 : HasBody Try.prog 202 := ⟨_, _, Try.func202, rfl, by kernel_rfl⟩

-- spec_Finish
def sm203 : Sm := ⟨[.val true [I, (.sl 90 k12)], .val false [I]], [(true, [(I, 0), ((.sl 90 k12), 2)]), (false, [(.bool, 0)])]⟩
def an203 : An := ⟨fun _ => none,
  fun _ => none,
  fun _ => none⟩
def s203 (n : Nat) : SmF := ⟨sm203, fun x => N.spec_Finish n x.1 x.2.1 x.2.2⟩
def env203 (n : Nat) : List (FuncId × SmF) := [(239, s239 n), (240, s240 n), (241, s241 n)]
theorem ev203 (n : Nat) (x : sm203.ins.D) : evFn (find tbl) (find (env203 n)) an203 n Try.f203 sm203 x = N.spec_Finish n x.1 x.2.1 x.2.2 := by kernel_rfl
theorem ok203 (n : Nat) : FnOk Try.prog TT 203 (s203 n) := fn_native (an := an203) (n := n) Try.func203 rfl (by kernel_rfl) tblOk (env_cons (ok239 n) body239 (env_cons (ok240 n) body240 (env_cons (ok241 n) body241 env_nil))) follows (ev203 n)
theorem body203 : HasBody Try.prog 203 := ⟨_, _, Try.func203, rfl, by kernel_rfl⟩

-- spec_l6Items
def sm150 : Sm := ⟨[.box [((.sl 5 (.one (.int .u8))), 0), (I, 0), (I, 0)]], [(false, [((.sl 236 k1), 2)])]⟩
def an150 : An := ⟨fun _ => none,
  fun b => match b with
    | 0 => some ([.own 3 236 k1 2 false, .slot 4 I, .box 0 [some ((.sl 5 (.one (.int .u8))), 0), some (I, 0), some (I, 0)]], false)
    | _ => none,
  fun b => match b with
    | 7 => some ([.own 3 236 k1 2 false, .box 0 [some ((.sl 5 (.one (.int .u8))), 0), some (I, 0), some (I, 0)]], false)
    | _ => none⟩
def s150 (n : Nat) : SmF := ⟨sm150, fun x => N.spec_l6Items n x.1 x.2.1 x.2.2⟩
def env150 (n : Nat) : List (FuncId × SmF) := [(160, s160 n), (208, s208 n)]
theorem ev150 (n : Nat) (x : sm150.ins.D) : evFn (find tbl) (find (env150 n)) an150 n Try.f150 sm150 x = N.spec_l6Items n x.1 x.2.1 x.2.2 := by kernel_rfl
theorem ok150 (n : Nat) : FnOk Try.prog TT 150 (s150 n) := fn_native (an := an150) (n := n) Try.func150 rfl (by kernel_rfl) tblOk (env_cons (ok160 n) body160 (env_cons (ok208 n) body208 env_nil)) follows (ev150 n)
theorem body150 : HasBody Try.prog 150 := ⟨_, _, Try.func150, rfl, by kernel_rfl⟩

-- spec_l6Could
def sm266 : Sm := ⟨[.val true [I, I, (.sl 144 k3)], .val false [(.sl 236 k1)]], [(false, [((.sl 97 k3), 2)]), (false, [(I, 0)])]⟩
def an266 : An := ⟨fun _ => none,
  fun b => match b with
    | 0 => some ([.own 6 97 k3 2 false, .slot 7 I, .slot 8 I], false)
    | _ => none,
  fun b => match b with
    | 7 => some ([.own 6 97 k3 2 false, .slot 7 I], false)
    | 27 => some ([.slot 10 I], false)
    | _ => none⟩
def s266 (n : Nat) : SmF := ⟨sm266, fun x => N.spec_l6Could n x.1 x.2.1 x.2.2.1 x.2.2.2⟩
def env266 (n : Nat) : List (FuncId × SmF) := [(180, s180 n)]
theorem ev266 (n : Nat) (x : sm266.ins.D) : evFn (find tbl) (find (env266 n)) an266 n Try.f266 sm266 x = N.spec_l6Could n x.1 x.2.1 x.2.2.1 x.2.2.2 := by kernel_rfl
theorem ok266 (n : Nat) : FnOk Try.prog TT 266 (s266 n) := fn_native (an := an266) (n := n) Try.func266 rfl (by kernel_rfl) tblOk (env_cons (ok180 n) body180 env_nil) follows (ev266 n)
theorem body266 : HasBody Try.prog 266 := ⟨_, _, Try.func266, rfl, by kernel_rfl⟩

-- spec_Picks
def sm243 : Sm := ⟨[.val true [(.sl 142 k9)], .val false [(.sl 236 k1)]], [(false, [((.sl 97 k3), 2)]), (false, [(.bool, 0)])]⟩
def an243 : An := ⟨fun _ => none,
  fun b => match b with
    | 0 => some ([.own 4 97 k3 2 false, .slot 5 .bool, .own 9 97 k3 2 false, .own 6 97 k3 2 false, .own 7 236 k1 2 false, .own 8 4 (.one .bool) 2 false], true)
    | 2 => some ([.slot 10 I, .slot 11 I], false)
    | 4 => some ([.slot 12 I, .slot 13 I, .slot 14 I], false)
    | 6 => some ([.slot 19 I, .own 7 236 k1 2 false], false)
    | 8 => some ([.slot 20 I, .own 7 236 k1 2 false], false)
    | _ => none,
  fun b => match b with
    | 19 => some ([.slot 12 I, .slot 13 I], false)
    | 31 => some ([.own 7 236 k1 2 false], false)
    | _ => none⟩
def s243 (n : Nat) : SmF := ⟨sm243, fun x => N.spec_Picks n x.1 x.2⟩
def env243 (n : Nat) : List (FuncId × SmF) := [(78, s78 n), (265, s265 n), (266, s266 n)]
theorem ev243 (n : Nat) (x : sm243.ins.D) : evFn (find tbl) (find (env243 n)) an243 n Try.f243 sm243 x = N.spec_Picks n x.1 x.2 := by kernel_rfl
theorem ok243 (n : Nat) : FnOk Try.prog TT 243 (s243 n) := fn_native (an := an243) (n := n) Try.func243 rfl (by kernel_rfl) tblOk (env_cons (ok78 n) body78 (env_cons (ok265 n) body265 (env_cons (ok266 n) body266 env_nil))) follows (ev243 n)
theorem body243 : HasBody Try.prog 243 := ⟨_, _, Try.func243, rfl, by kernel_rfl⟩

-- spec_HoldAll
def sm244 : Sm := ⟨[.val true [(.sl 142 k9)], .val false [(.sl 97 k3)]], [(true, [((.sl 142 k9), 2)]), (false, [(.bool, 0)])]⟩
def an244 : An := ⟨fun _ => none,
  fun _ => none,
  fun _ => none⟩
def s244 (n : Nat) : SmF := ⟨sm244, fun x => N.spec_HoldAll n x.1 x.2⟩
def env244 (n : Nat) : List (FuncId × SmF) := [(264, s264 n)]
theorem ev244 (n : Nat) (x : sm244.ins.D) : evFn (find tbl) (find (env244 n)) an244 n Try.f244 sm244 x = N.spec_HoldAll n x.1 x.2 := by kernel_rfl
theorem ok244 (n : Nat) : FnOk Try.prog TT 244 (s244 n) := fn_native (an := an244) (n := n) Try.func244 rfl (by kernel_rfl) tblOk (env_cons (ok264 n) body264 env_nil) follows (ev244 n)
theorem body244 : HasBody Try.prog 244 := ⟨_, _, Try.func244, rfl, by kernel_rfl⟩

-- spec_Accept
def sm204 : Sm := ⟨[.val true [(.sl 142 k9)], .val true [I, (.sl 90 k12)], .val false [I], .val false [(.sl 236 k1)]], [(true, [((.sl 142 k9), 2)]), (true, [(I, 0), ((.sl 90 k12), 2)]), (false, [(I, 0)])]⟩
def an204 : An := ⟨fun _ => none,
  fun _ => none,
  fun _ => none⟩
def s204 (n : Nat) : SmF := ⟨sm204, fun x => N.spec_Accept n x.1 x.2.1 x.2.2.1 x.2.2.2.1 x.2.2.2.2⟩
def env204 (n : Nat) : List (FuncId × SmF) := [(78, s78 n), (101, s101 n), (102, s102 n), (239, s239 n), (241, s241 n), (243, s243 n), (244, s244 n)]
theorem ev204 (n : Nat) (x : sm204.ins.D) : evFn (find tbl) (find (env204 n)) an204 n Try.f204 sm204 x = N.spec_Accept n x.1 x.2.1 x.2.2.1 x.2.2.2.1 x.2.2.2.2 := by kernel_rfl
theorem ok204 (n : Nat) : FnOk Try.prog TT 204 (s204 n) := fn_native (an := an204) (n := n) Try.func204 rfl (by kernel_rfl) tblOk (env_cons (ok78 n) body78 (env_cons (ok101 n) body101 (env_cons (ok102 n) body102 (env_cons (ok239 n) body239 (env_cons (ok241 n) body241 (env_cons (ok243 n) body243 (env_cons (ok244 n) body244 env_nil))))))) follows (ev204 n)
theorem body204 : HasBody Try.prog 204 := ⟨_, _, Try.func204, rfl, by kernel_rfl⟩

-- spec_l11Draw
def sm140 : Sm := ⟨[.box [((.sl 5 (.one (.int .u8))), 0), (I, 0), (I, 0)], .val false [I]], [(true, [((.sl 142 k9), 2)]), (true, [(I, 0), ((.sl 90 k12), 2)])]⟩
def an140 : An := ⟨fun _ => none,
  fun b => match b with
    | 0 => some ([.slot 8 I, .box 0 [some ((.sl 5 (.one (.int .u8))), 0), some (I, 0), some (I, 0)], .box 6 [some ((.sl 142 k9), 2)], .box 7 [some (I, 0), some ((.sl 90 k12), 2)]], false)
    | _ => none,
  fun b => match b with
    | 7 => some ([.box 0 [some ((.sl 5 (.one (.int .u8))), 0), some (I, 0), some (I, 0)], .box 6 [some ((.sl 142 k9), 2)], .box 7 [some (I, 0), some ((.sl 90 k12), 2)]], false)
    | _ => none⟩
def s140 (n : Nat) : SmF := ⟨sm140, fun x => N.spec_l11Draw n x.1 x.2.1 x.2.2.1 x.2.2.2⟩
def env140 (n : Nat) : List (FuncId × SmF) := [(141, s141 n), (150, s150 n), (201, s201 n), (202, s202 n), (203, s203 n), (204, s204 n)]
theorem ev140 (n : Nat) (x : sm140.ins.D) : evFn (find tbl) (find (env140 n)) an140 n Try.f140 sm140 x = N.spec_l11Draw n x.1 x.2.1 x.2.2.1 x.2.2.2 := by kernel_rfl
theorem ok140 (n : Nat) : FnOk Try.prog TT 140 (s140 n) := fn_native (an := an140) (n := n) Try.func140 rfl (by kernel_rfl) tblOk (env_cons (ok141 n) body141 (env_cons (ok150 n) body150 (env_cons (ok201 n) body201 (env_cons (ok202 n) body202 (env_cons (ok203 n) body203 (env_cons (ok204 n) body204 env_nil)))))) follows (ev140 n)
theorem body140 : HasBody Try.prog 140 := ⟨_, _, Try.func140, rfl, by kernel_rfl⟩

-- spec_DrawBook
def sm61 : Sm := ⟨[.val false [(.sl 5 (.one (.int .u8)))]], [(true, [((.sl 142 k9), 2)]), (true, [(I, 0), ((.sl 90 k12), 2)]), (false, [((.sl 236 k1), 2)])]⟩
def an61 : An := ⟨fun _ => none,
  fun _ => none,
  fun _ => none⟩
def s61 (n : Nat) : SmF := ⟨sm61, fun x => N.spec_DrawBook n x⟩
def env61 (n : Nat) : List (FuncId × SmF) := [(139, s139 n), (140, s140 n), (144, s144 n), (150, s150 n)]
theorem ev61 (n : Nat) (x : sm61.ins.D) : evFn (find tbl) (find (env61 n)) an61 n Try.f61 sm61 x = N.spec_DrawBook n x := by kernel_rfl
theorem ok61 (n : Nat) : FnOk Try.prog TT 61 (s61 n) := fn_native (an := an61) (n := n) Try.func61 rfl (by kernel_rfl) tblOk (env_cons (ok139 n) body139 (env_cons (ok140 n) body140 (env_cons (ok144 n) body144 (env_cons (ok150 n) body150 env_nil)))) follows (ev61 n)
theorem body61 : HasBody Try.prog 61 := ⟨_, _, Try.func61, rfl, by kernel_rfl⟩

-- impl_in
def sm147 : Sm := ⟨[.val false [I], .val false [I], .val false [I]], [(false, [(.bool, 0)])]⟩
def an147 : An := ⟨fun _ => none,
  fun _ => none,
  fun _ => none⟩
def s147 (n : Nat) : SmF := ⟨sm147, fun x => N.impl_in x.1 x.2.1 x.2.2⟩
def env147 (n : Nat) : List (FuncId × SmF) := []
theorem ev147 (n : Nat) (x : sm147.ins.D) : evFn (find tbl) (find (env147 n)) an147 n Try.f147 sm147 x = N.impl_in x.1 x.2.1 x.2.2 := by kernel_rfl
theorem ok147 (n : Nat) : FnOk Try.prog TT 147 (s147 n) := fn_native (an := an147) (n := n) Try.func147 rfl (by kernel_rfl) tblOk env_nil follows (ev147 n)
theorem body147 : HasBody Try.prog 147 := ⟨_, _, Try.func147, rfl, by kernel_rfl⟩

-- impl_ItemsOk
def sm155 : Sm := ⟨[.val false [(.sl 236 k1)]], [(false, [(.bool, 0)])]⟩
def an155 : An := ⟨fun _ => none,
  fun b => match b with
    | 0 => some ([.slot 7 I], true)
    | _ => none,
  fun _ => none⟩
def s155 (n : Nat) : SmF := ⟨sm155, fun x => N.impl_ItemsOk n x⟩
def env155 (n : Nat) : List (FuncId × SmF) := [(147, s147 n)]
theorem ev155 (n : Nat) (x : sm155.ins.D) : evFn (find tbl) (find (env155 n)) an155 n Try.f155 sm155 x = N.impl_ItemsOk n x := by kernel_rfl
theorem ok155 (n : Nat) : FnOk Try.prog TT 155 (s155 n) := fn_native (an := an155) (n := n) Try.func155 rfl (by kernel_rfl) tblOk (env_cons (ok147 n) body147 env_nil) follows (ev155 n)
theorem body155 : HasBody Try.prog 155 := ⟨_, _, Try.func155, rfl, by kernel_rfl⟩

-- impl_copyItems
def sm209 : Sm := ⟨[.val false [(.sl 236 k1)]], [(false, [((.sl 236 k1), 2)])]⟩
def an209 : An := ⟨fun _ => none,
  fun _ => none,
  fun _ => none⟩
def s209 (n : Nat) : SmF := ⟨sm209, fun x => N.impl_copyItems x⟩
def env209 (n : Nat) : List (FuncId × SmF) := []
theorem ev209 (n : Nat) (x : sm209.ins.D) : evFn (find tbl) (find (env209 n)) an209 n Try.f209 sm209 x = N.impl_copyItems x := by kernel_rfl
theorem ok209 (n : Nat) : FnOk Try.prog TT 209 (s209 n) := fn_native (an := an209) (n := n) Try.func209 rfl (by kernel_rfl) tblOk env_nil follows (ev209 n)
theorem body209 : HasBody Try.prog 209 := ⟨_, _, Try.func209, rfl, by kernel_rfl⟩

-- impl_picksOf
def sm156 : Sm := ⟨[.val false [(.sl 97 k3)], .val false [(.sl 236 k1)]], [(false, [(.bool, 0)])]⟩
def an156 : An := ⟨fun _ => none,
  fun b => match b with
    | 0 => some ([.slot 16 I, .own 5 236 k1 2 false], true)
    | 2 => some ([.slot 8 .bool, .slot 22 I, .own 5 236 k1 2 false], false)
    | 4 => some ([.slot 59 I], true)
    | _ => none,
  fun _ => none⟩
def s156 (n : Nat) : SmF := ⟨sm156, fun x => N.impl_picksOf n x.1 x.2⟩
def env156 (n : Nat) : List (FuncId × SmF) := [(147, s147 n), (209, s209 n)]
theorem ev156 (n : Nat) (x : sm156.ins.D) : evFn (find tbl) (find (env156 n)) an156 n Try.f156 sm156 x = N.impl_picksOf n x.1 x.2 := by kernel_rfl
theorem ok156 (n : Nat) : FnOk Try.prog TT 156 (s156 n) := fn_native (an := an156) (n := n) Try.func156 rfl (by kernel_rfl) tblOk (env_cons (ok147 n) body147 (env_cons (ok209 n) body209 env_nil)) follows (ev156 n)
theorem body156 : HasBody Try.prog 156 := ⟨_, _, Try.func156, rfl, by kernel_rfl⟩

-- impl_BookOk
def sm65 : Sm := ⟨[.val true [I, (.sl 90 k12)]], [(false, [(.bool, 0)])]⟩
def an65 : An := ⟨fun _ => none,
  fun b => match b with
    | 0 => some ([.slot 18 I], true)
    | _ => none,
  fun _ => none⟩
def s65 (n : Nat) : SmF := ⟨sm65, fun x => N.impl_BookOk n x.1 x.2⟩
def env65 (n : Nat) : List (FuncId × SmF) := [(147, s147 n), (155, s155 n), (156, s156 n)]
theorem ev65 (n : Nat) (x : sm65.ins.D) : evFn (find tbl) (find (env65 n)) an65 n Try.f65 sm65 x = N.impl_BookOk n x.1 x.2 := by kernel_rfl
theorem ok65 (n : Nat) : FnOk Try.prog TT 65 (s65 n) := fn_native (an := an65) (n := n) Try.func65 rfl (by kernel_rfl) tblOk (env_cons (ok147 n) body147 (env_cons (ok155 n) body155 (env_cons (ok156 n) body156 env_nil))) follows (ev65 n)
theorem body65 : HasBody Try.prog 65 := ⟨_, _, Try.func65, rfl, by kernel_rfl⟩

-- impl_copyPicks
def sm210 : Sm := ⟨[.val false [(.sl 97 k3)]], [(false, [((.sl 97 k3), 2)])]⟩
def an210 : An := ⟨fun _ => none,
  fun _ => none,
  fun _ => none⟩
def s210 (n : Nat) : SmF := ⟨sm210, fun x => N.impl_copyPicks x⟩
def env210 (n : Nat) : List (FuncId × SmF) := []
theorem ev210 (n : Nat) (x : sm210.ins.D) : evFn (find tbl) (find (env210 n)) an210 n Try.f210 sm210 x = N.impl_copyPicks x := by kernel_rfl
theorem ok210 (n : Nat) : FnOk Try.prog TT 210 (s210 n) := fn_native (an := an210) (n := n) Try.func210 rfl (by kernel_rfl) tblOk env_nil follows (ev210 n)
theorem body210 : HasBody Try.prog 210 := ⟨_, _, Try.func210, rfl, by kernel_rfl⟩

-- impl_copyOrder
def sm152 : Sm := ⟨[.val true [I, I, (.sl 236 k1), (.sl 97 k3), I]], [(true, [(I, 0), (I, 0), ((.sl 236 k1), 2), ((.sl 97 k3), 2), (I, 0)])]⟩
def an152 : An := ⟨fun _ => none,
  fun _ => none,
  fun _ => none⟩
def s152 (n : Nat) : SmF := ⟨sm152, fun x => N.impl_copyOrder x.1 x.2.1 x.2.2.1 x.2.2.2.1 x.2.2.2.2⟩
def env152 (n : Nat) : List (FuncId × SmF) := [(209, s209 n), (210, s210 n)]
theorem ev152 (n : Nat) (x : sm152.ins.D) : evFn (find tbl) (find (env152 n)) an152 n Try.f152 sm152 x = N.impl_copyOrder x.1 x.2.1 x.2.2.1 x.2.2.2.1 x.2.2.2.2 := by kernel_rfl
theorem ok152 (n : Nat) : FnOk Try.prog TT 152 (s152 n) := fn_native (an := an152) (n := n) Try.func152 rfl (by kernel_rfl) tblOk (env_cons (ok209 n) body209 (env_cons (ok210 n) body210 env_nil)) follows (ev152 n)
theorem body152 : HasBody Try.prog 152 := ⟨_, _, Try.func152, rfl, by kernel_rfl⟩

-- impl_copyBook
def sm151 : Sm := ⟨[.val true [I, (.sl 90 k12)]], [(true, [(I, 0), ((.sl 90 k12), 2)])]⟩
def an151 : An := ⟨fun _ => none,
  fun b => match b with
    | 0 => some ([.slot 12 I, .box 3 [some (I, 0), some ((.sl 90 k12), 2)]], false)
    | _ => none,
  fun _ => none⟩
def s151 (n : Nat) : SmF := ⟨sm151, fun x => N.impl_copyBook n x.1 x.2⟩
def env151 (n : Nat) : List (FuncId × SmF) := [(152, s152 n)]
theorem ev151 (n : Nat) (x : sm151.ins.D) : evFn (find tbl) (find (env151 n)) an151 n Try.f151 sm151 x = N.impl_copyBook n x.1 x.2 := by kernel_rfl
theorem ok151 (n : Nat) : FnOk Try.prog TT 151 (s151 n) := fn_native (an := an151) (n := n) Try.func151 rfl (by kernel_rfl) tblOk (env_cons (ok152 n) body152 env_nil) follows (ev151 n)
theorem body151 : HasBody Try.prog 151 := ⟨_, _, Try.func151, rfl, by kernel_rfl⟩

-- impl_Sweep
def sm62 : Sm := ⟨[.val true [I, (.sl 90 k12)]], [(true, [(I, 0), ((.sl 90 k12), 2)])]⟩
def an62 : An := ⟨fun _ => none,
  fun b => match b with
    | 0 => some ([.slot 17 I, .box 3 [some (I, 0), some ((.sl 90 k12), 2)]], false)
    | _ => none,
  fun b => match b with
    | 7 => some ([.box 3 [some (I, 0), some ((.sl 90 k12), 2)]], false)
    | _ => none⟩
def s62 (n : Nat) : SmF := ⟨sm62, fun x => N.impl_Sweep n x.1 x.2⟩
def env62 (n : Nat) : List (FuncId × SmF) := [(65, s65 n), (151, s151 n), (152, s152 n)]
theorem ev62 (n : Nat) (x : sm62.ins.D) : evFn (find tbl) (find (env62 n)) an62 n Try.f62 sm62 x = N.impl_Sweep n x.1 x.2 := by kernel_rfl
theorem ok62 (n : Nat) : FnOk Try.prog TT 62 (s62 n) := fn_native (an := an62) (n := n) Try.func62 rfl (by kernel_rfl) tblOk (env_cons (ok65 n) body65 (env_cons (ok151 n) body151 (env_cons (ok152 n) body152 env_nil))) follows (ev62 n)
theorem body62 : HasBody Try.prog 62 := ⟨_, _, Try.func62, rfl, by kernel_rfl⟩

-- impl_orderAt
def sm153 : Sm := ⟨[.val true [I, (.sl 90 k12)], .val false [I]], [(false, [(I, 0)])]⟩
def an153 : An := ⟨fun _ => none,
  fun b => match b with
    | 0 => some ([.slot 10 I], true)
    | _ => none,
  fun _ => none⟩
def s153 (n : Nat) : SmF := ⟨sm153, fun x => N.impl_orderAt n x.1 x.2.1 x.2.2⟩
def env153 (n : Nat) : List (FuncId × SmF) := []
theorem ev153 (n : Nat) (x : sm153.ins.D) : evFn (find tbl) (find (env153 n)) an153 n Try.f153 sm153 x = N.impl_orderAt n x.1 x.2.1 x.2.2 := by kernel_rfl
theorem ok153 (n : Nat) : FnOk Try.prog TT 153 (s153 n) := fn_native (an := an153) (n := n) Try.func153 rfl (by kernel_rfl) tblOk env_nil follows (ev153 n)
theorem body153 : HasBody Try.prog 153 := ⟨_, _, Try.func153, rfl, by kernel_rfl⟩

-- impl_OrderOf
def sm63 : Sm := ⟨[.val true [I, (.sl 90 k12)], .val false [I]], [(true, [(I, 0), (I, 0), ((.sl 236 k1), 2), ((.sl 97 k3), 2), (I, 0)]), (false, [(.bool, 0)])]⟩
def an63 : An := ⟨fun _ => none,
  fun _ => none,
  fun _ => none⟩
def s63 (n : Nat) : SmF := ⟨sm63, fun x => N.impl_OrderOf n x.1 x.2.1 x.2.2⟩
def env63 (n : Nat) : List (FuncId × SmF) := [(152, s152 n), (153, s153 n)]
theorem ev63 (n : Nat) (x : sm63.ins.D) : evFn (find tbl) (find (env63 n)) an63 n Try.f63 sm63 x = N.impl_OrderOf n x.1 x.2.1 x.2.2 := by kernel_rfl
theorem ok63 (n : Nat) : FnOk Try.prog TT 63 (s63 n) := fn_native (an := an63) (n := n) Try.func63 rfl (by kernel_rfl) tblOk (env_cons (ok152 n) body152 (env_cons (ok153 n) body153 env_nil)) follows (ev63 n)
theorem body63 : HasBody Try.prog 63 := ⟨_, _, Try.func63, rfl, by kernel_rfl⟩

-- impl_turned
def sm154 : Sm := ⟨[.val true [I, (.sl 90 k12)], .val false [I], .val false [I]], [(true, [(I, 0), ((.sl 90 k12), 2)]), (false, [(.bool, 0)])]⟩
def an154 : An := ⟨fun _ => none,
  fun _ => none,
  fun _ => none⟩
def s154 (n : Nat) : SmF := ⟨sm154, fun x => N.impl_turned n x.1 x.2.1 x.2.2.1 x.2.2.2⟩
def env154 (n : Nat) : List (FuncId × SmF) := [(65, s65 n), (151, s151 n), (153, s153 n)]
theorem ev154 (n : Nat) (x : sm154.ins.D) : evFn (find tbl) (find (env154 n)) an154 n Try.f154 sm154 x = N.impl_turned n x.1 x.2.1 x.2.2.1 x.2.2.2 := by kernel_rfl
theorem ok154 (n : Nat) : FnOk Try.prog TT 154 (s154 n) := fn_native (an := an154) (n := n) Try.func154 rfl (by kernel_rfl) tblOk (env_cons (ok65 n) body65 (env_cons (ok151 n) body151 (env_cons (ok153 n) body153 env_nil))) follows (ev154 n)
theorem body154 : HasBody Try.prog 154 := ⟨_, _, Try.func154, rfl, by kernel_rfl⟩

-- impl_Finish
def sm64 : Sm := ⟨[.val true [I, (.sl 90 k12)], .val false [I]], [(true, [(I, 0), ((.sl 90 k12), 2)]), (false, [(.bool, 0)])]⟩
def an64 : An := ⟨fun _ => none,
  fun _ => none,
  fun _ => none⟩
def s64 (n : Nat) : SmF := ⟨sm64, fun x => N.impl_Finish n x.1 x.2.1 x.2.2⟩
def env64 (n : Nat) : List (FuncId × SmF) := [(154, s154 n)]
theorem ev64 (n : Nat) (x : sm64.ins.D) : evFn (find tbl) (find (env64 n)) an64 n Try.f64 sm64 x = N.impl_Finish n x.1 x.2.1 x.2.2 := by kernel_rfl
theorem ok64 (n : Nat) : FnOk Try.prog TT 64 (s64 n) := fn_native (an := an64) (n := n) Try.func64 rfl (by kernel_rfl) tblOk (env_cons (ok154 n) body154 env_nil) follows (ev64 n)
theorem body64 : HasBody Try.prog 64 := ⟨_, _, Try.func64, rfl, by kernel_rfl⟩

-- impl_podOk
def sm157 : Sm := ⟨[.val true [I, I, (.sl 144 k3)]], [(false, [(.bool, 0)])]⟩
def an157 : An := ⟨fun _ => none,
  fun b => match b with
    | 0 => some ([.slot 24 I], true)
    | _ => none,
  fun _ => none⟩
def s157 (n : Nat) : SmF := ⟨sm157, fun x => N.impl_podOk n x.1 x.2.1 x.2.2⟩
def env157 (n : Nat) : List (FuncId × SmF) := [(147, s147 n)]
theorem ev157 (n : Nat) (x : sm157.ins.D) : evFn (find tbl) (find (env157 n)) an157 n Try.f157 sm157 x = N.impl_podOk n x.1 x.2.1 x.2.2 := by kernel_rfl
theorem ok157 (n : Nat) : FnOk Try.prog TT 157 (s157 n) := fn_native (an := an157) (n := n) Try.func157 rfl (by kernel_rfl) tblOk (env_cons (ok147 n) body147 env_nil) follows (ev157 n)
theorem body157 : HasBody Try.prog 157 := ⟨_, _, Try.func157, rfl, by kernel_rfl⟩

-- impl_StockOk
def sm66 : Sm := ⟨[.val true [(.sl 142 k9)]], [(false, [(.bool, 0)])]⟩
def an66 : An := ⟨fun _ => none,
  fun b => match b with
    | 0 => some ([.slot 10 I], true)
    | 2 => some ([.slot 39 I], true)
    | _ => none,
  fun _ => none⟩
def s66 (n : Nat) : SmF := ⟨sm66, fun x => N.impl_StockOk n x⟩
def env66 (n : Nat) : List (FuncId × SmF) := [(157, s157 n)]
theorem ev66 (n : Nat) (x : sm66.ins.D) : evFn (find tbl) (find (env66 n)) an66 n Try.f66 sm66 x = N.impl_StockOk n x := by kernel_rfl
theorem ok66 (n : Nat) : FnOk Try.prog TT 66 (s66 n) := fn_native (an := an66) (n := n) Try.func66 rfl (by kernel_rfl) tblOk (env_cons (ok157 n) body157 env_nil) follows (ev66 n)
theorem body66 : HasBody Try.prog 66 := ⟨_, _, Try.func66, rfl, by kernel_rfl⟩

-- laws_FnSwept
def sm10 : Sm := ⟨[.val false [(.sl 5 (.one (.int .u8)))]], [(false, [(.bool, 0)])]⟩
def an10 : An := ⟨fun _ => none,
  fun b => match b with
    | 0 => some ([.slot 7 I, .slot 8 I], true)
    | _ => none,
  fun b => match b with
    | 7 => some ([.slot 7 I], true)
    | _ => none⟩
def s10 (n : Nat) : SmF := ⟨sm10, fun x => N.laws_FnSwept n x⟩
def env10 (n : Nat) : List (FuncId × SmF) := [(52, s52 n), (61, s61 n), (62, s62 n), (63, s63 n), (64, s64 n), (65, s65 n), (66, s66 n)]
theorem ev10 (n : Nat) (x : sm10.ins.D) : evFn (find tbl) (find (env10 n)) an10 n Try.f10 sm10 x = N.laws_FnSwept n x := by kernel_rfl
theorem ok10 (n : Nat) : FnOk Try.prog TT 10 (s10 n) := fn_native (an := an10) (n := n) Try.func10 rfl (by kernel_rfl) tblOk (env_cons (ok52 n) body52 (env_cons (ok61 n) body61 (env_cons (ok62 n) body62 (env_cons (ok63 n) body63 (env_cons (ok64 n) body64 (env_cons (ok65 n) body65 (env_cons (ok66 n) body66 env_nil))))))) follows (ev10 n)
theorem body10 : HasBody Try.prog 10 := ⟨_, _, Try.func10, rfl, by kernel_rfl⟩
end Go.Proofs.Ytjbfgbgibmebfaa.Ev
