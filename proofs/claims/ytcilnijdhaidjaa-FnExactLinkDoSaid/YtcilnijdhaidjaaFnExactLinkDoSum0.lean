/- Tables of types; summaries of the functions. Conditions: none. -/
import Derived.Test.YtcilnijdhaidjaaLib3
import Derived.Test.YtcilnijdhaidjaaFnExactLinkDoNat
import Derived.Test.YtcilnijdhaidjaaProg
import Derived.KernelRfl
namespace Go.Proofs.Ytcilnijdhaidjaa.Ev
open Go Go.Ev Go.Proofs
set_option linter.unusedVariables false
set_option maxRecDepth 100000

abbrev I : L := .int .i64
def k0 : Ls := (.cons .str (.one (.int .u64)))
def k1 : Ls := (.cons I (.one I))
def k2 : Ls := (.cons I (.cons I (.one I)))
def k3 : Ls := (.cons .bool (.cons I (.one I)))
def k4 : Ls := (.cons I (.cons I (.cons .bool (.one (.int .u8)))))
def k5 : Ls := (.cons I (.cons I (.cons I (.one I))))
def k6 : Ls := (.cons I (.cons I (.cons I (.cons .bool (.one I)))))
def k7 : Ls := (.cons I (.cons I (.one (.sl 3 (.one I)))))
def k8 : Ls := (.cons I (.cons I (.one (.sl 175 k2))))
def k9 : Ls := (.cons I (.cons I (.one (.sl 195 k2))))
def k10 : Ls := (.cons I (.cons I (.cons (.sl 149 k1) (.cons (.sl 151 k2) (.one I)))))
def k11 : Ls := (.cons I (.cons I (.cons (.sl 147 k1) (.cons (.sl 102 k2) (.one I)))))
def k12 : Ls := (.cons (.sl 3 (.one I)) (.cons I (.cons .bool (.cons I (.cons I (.cons I (.cons (.sl 3 (.one I)) (.one (.sl 127 k3)))))))))
def k13 : Ls := (.cons (.sl 3 (.one I)) (.cons I (.cons .bool (.cons I (.cons I (.cons I (.cons (.sl 3 (.one I)) (.one (.sl 156 k3)))))))))
def k14 : Ls := (.cons I (.one (.sl 33 k10)))
def k15 : Ls := (.cons I (.one (.sl 39 k11)))
def k16 : Ls := (.cons I (.cons I (.cons (.sl 3 (.one I)) (.cons (.sl 185 k9) (.cons I (.cons (.sl 33 k10) (.cons (.sl 165 k6) (.cons (.sl 167 k5) (.cons (.sl 3 (.one I)) (.cons (.sl 3 (.one I)) (.one I)))))))))))
def k17 : Ls := (.cons I (.cons I (.cons (.sl 3 (.one I)) (.cons (.sl 179 k8) (.cons I (.cons (.sl 39 k11) (.cons (.sl 135 k6) (.cons (.sl 110 k5) (.cons (.sl 3 (.one I)) (.cons (.sl 3 (.one I)) (.one I)))))))))))
def tbl : List (Nat × Ty) := [
  (3, ⟨false, (.one I), []⟩),
  (4, ⟨false, (.one .bool), []⟩),
  (22, ⟨false, (.one (.sl 3 (.one I))), []⟩),
  (23, ⟨false, (.one (.sl 127 k3)), []⟩),
  (25, ⟨true, k12, [(0, 22), (1, 3), (2, 4), (3, 3), (4, 3), (5, 3), (6, 22), (7, 23)]⟩),
  (51, ⟨false, (.one (.sl 156 k3)), []⟩),
  (53, ⟨true, k13, [(0, 22), (1, 3), (2, 4), (3, 3), (4, 3), (5, 3), (6, 22), (7, 51)]⟩),
  (127, ⟨true, k3, [(0, 4), (1, 3), (2, 3)]⟩),
  (156, ⟨true, k3, [(0, 4), (1, 3), (2, 3)]⟩)]
theorem tblOk : tbl.all (fun p => tyB Try.prog p.1 p.2) = true := by kernel_rfl
theorem follows : Try.prog.follows .mixedOrders = true := by kernel_rfl
-- laws_szIntS
def sm72 : Sm := ⟨[.val false [(.sl 3 (.one I))], .val false [I]], [(false, [(I, 0)])]⟩
def an72 : An := ⟨fun _ => none,
  fun _ => none,
  fun _ => none⟩
def s72 (n : Nat) : SmF := ⟨sm72, fun x => N.laws_szIntS x.1 x.2⟩
def env72 (n : Nat) : List (FuncId × SmF) := []
theorem ev72 (n : Nat) (x : sm72.ins.D) : evFn (find tbl) (find (env72 n)) an72 n Try.f72 sm72 x = N.laws_szIntS x.1 x.2 := by kernel_rfl
theorem ok72 (n : Nat) : FnOk Try.prog 72 (s72 n) := fn_native (an := an72) (n := n) Try.func72 rfl (by kernel_rfl) tblOk env_nil follows (ev72 n)
theorem body72 : HasBody Try.prog 72 := ⟨_, _, Try.func72, rfl, by kernel_rfl⟩

-- laws_szWordS
def sm73 : Sm := ⟨[.val false [(.sl 156 k3)], .val false [I]], [(false, [(I, 0)])]⟩
def an73 : An := ⟨fun _ => none,
  fun _ => none,
  fun _ => none⟩
def s73 (n : Nat) : SmF := ⟨sm73, fun x => N.laws_szWordS x.1 x.2⟩
def env73 (n : Nat) : List (FuncId × SmF) := []
theorem ev73 (n : Nat) (x : sm73.ins.D) : evFn (find tbl) (find (env73 n)) an73 n Try.f73 sm73 x = N.laws_szWordS x.1 x.2 := by kernel_rfl
theorem ok73 (n : Nat) : FnOk Try.prog 73 (s73 n) := fn_native (an := an73) (n := n) Try.func73 rfl (by kernel_rfl) tblOk env_nil follows (ev73 n)
theorem body73 : HasBody Try.prog 73 := ⟨_, _, Try.func73, rfl, by kernel_rfl⟩

-- laws_szLink
def sm32 : Sm := ⟨[.val true [(.sl 3 (.one I)), I, .bool, I, I, I, (.sl 3 (.one I)), (.sl 156 k3)], .val false [I]], [(false, [(I, 0)])]⟩
def an32 : An := ⟨fun _ => none,
  fun _ => none,
  fun _ => none⟩
def s32 (n : Nat) : SmF := ⟨sm32, fun x => N.laws_szLink x.1 x.2.1 x.2.2.1 x.2.2.2.1 x.2.2.2.2.1 x.2.2.2.2.2.1 x.2.2.2.2.2.2.1 x.2.2.2.2.2.2.2.1 x.2.2.2.2.2.2.2.2⟩
def env32 (n : Nat) : List (FuncId × SmF) := [(72, s72 n), (73, s73 n)]
theorem ev32 (n : Nat) (x : sm32.ins.D) : evFn (find tbl) (find (env32 n)) an32 n Try.f32 sm32 x = N.laws_szLink x.1 x.2.1 x.2.2.1 x.2.2.2.1 x.2.2.2.2.1 x.2.2.2.2.2.1 x.2.2.2.2.2.2.1 x.2.2.2.2.2.2.2.1 x.2.2.2.2.2.2.2.2 := by kernel_rfl
theorem ok32 (n : Nat) : FnOk Try.prog 32 (s32 n) := fn_native (an := an32) (n := n) Try.func32 rfl (by kernel_rfl) tblOk (env_cons (ok72 n) body72 (env_cons (ok73 n) body73 env_nil)) follows (ev32 n)
theorem body32 : HasBody Try.prog 32 := ⟨_, _, Try.func32, rfl, by kernel_rfl⟩

-- laws_toIntS
def sm77 : Sm := ⟨[.val false [(.sl 3 (.one I))]], [(false, [((.sl 3 (.one I)), 2)])]⟩
def an77 : An := ⟨fun _ => none,
  fun b => match b with
    | 0 => some ([.slot 4 I, .own 3 3 (.one I) 2 false], false)
    | _ => none,
  fun _ => none⟩
def s77 (n : Nat) : SmF := ⟨sm77, fun x => N.laws_toIntS n x⟩
def env77 (n : Nat) : List (FuncId × SmF) := []
theorem ev77 (n : Nat) (x : sm77.ins.D) : evFn (find tbl) (find (env77 n)) an77 n Try.f77 sm77 x = N.laws_toIntS n x := by kernel_rfl
theorem ok77 (n : Nat) : FnOk Try.prog 77 (s77 n) := fn_native (an := an77) (n := n) Try.func77 rfl (by kernel_rfl) tblOk env_nil follows (ev77 n)
theorem body77 : HasBody Try.prog 77 := ⟨_, _, Try.func77, rfl, by kernel_rfl⟩

-- laws_toWord
def sm118 : Sm := ⟨[.val true [.bool, I, I]], [(true, [(.bool, 0), (I, 0), (I, 0)])]⟩
def an118 : An := ⟨fun _ => none,
  fun _ => none,
  fun _ => none⟩
def s118 (n : Nat) : SmF := ⟨sm118, fun x => N.laws_toWord x.1 x.2.1 x.2.2⟩
def env118 (n : Nat) : List (FuncId × SmF) := []
theorem ev118 (n : Nat) (x : sm118.ins.D) : evFn (find tbl) (find (env118 n)) an118 n Try.f118 sm118 x = N.laws_toWord x.1 x.2.1 x.2.2 := by kernel_rfl
theorem ok118 (n : Nat) : FnOk Try.prog 118 (s118 n) := fn_native (an := an118) (n := n) Try.func118 rfl (by kernel_rfl) tblOk env_nil follows (ev118 n)
theorem body118 : HasBody Try.prog 118 := ⟨_, _, Try.func118, rfl, by kernel_rfl⟩

-- laws_toWordS
def sm78 : Sm := ⟨[.val false [(.sl 156 k3)]], [(false, [((.sl 127 k3), 2)])]⟩
def an78 : An := ⟨fun _ => none,
  fun b => match b with
    | 0 => some ([.slot 4 I, .own 3 127 k3 2 false], false)
    | _ => none,
  fun _ => none⟩
def s78 (n : Nat) : SmF := ⟨sm78, fun x => N.laws_toWordS n x⟩
def env78 (n : Nat) : List (FuncId × SmF) := [(118, s118 n)]
theorem ev78 (n : Nat) (x : sm78.ins.D) : evFn (find tbl) (find (env78 n)) an78 n Try.f78 sm78 x = N.laws_toWordS n x := by kernel_rfl
theorem ok78 (n : Nat) : FnOk Try.prog 78 (s78 n) := fn_native (an := an78) (n := n) Try.func78 rfl (by kernel_rfl) tblOk (env_cons (ok118 n) body118 env_nil) follows (ev78 n)
theorem body78 : HasBody Try.prog 78 := ⟨_, _, Try.func78, rfl, by kernel_rfl⟩

-- laws_toLink
def sm34 : Sm := ⟨[.val true [(.sl 3 (.one I)), I, .bool, I, I, I, (.sl 3 (.one I)), (.sl 156 k3)]], [(true, [((.sl 3 (.one I)), 2), (I, 0), (.bool, 0), (I, 0), (I, 0), (I, 0), ((.sl 3 (.one I)), 2), ((.sl 127 k3), 2)])]⟩
def an34 : An := ⟨fun _ => none,
  fun _ => none,
  fun _ => none⟩
def s34 (n : Nat) : SmF := ⟨sm34, fun x => N.laws_toLink n x.1 x.2.1 x.2.2.1 x.2.2.2.1 x.2.2.2.2.1 x.2.2.2.2.2.1 x.2.2.2.2.2.2.1 x.2.2.2.2.2.2.2⟩
def env34 (n : Nat) : List (FuncId × SmF) := [(77, s77 n), (78, s78 n)]
theorem ev34 (n : Nat) (x : sm34.ins.D) : evFn (find tbl) (find (env34 n)) an34 n Try.f34 sm34 x = N.laws_toLink n x.1 x.2.1 x.2.2.1 x.2.2.2.1 x.2.2.2.2.1 x.2.2.2.2.2.1 x.2.2.2.2.2.2.1 x.2.2.2.2.2.2.2 := by kernel_rfl
theorem ok34 (n : Nat) : FnOk Try.prog 34 (s34 n) := fn_native (an := an34) (n := n) Try.func34 rfl (by kernel_rfl) tblOk (env_cons (ok77 n) body77 (env_cons (ok78 n) body78 env_nil)) follows (ev34 n)
theorem body34 : HasBody Try.prog 34 := ⟨_, _, Try.func34, rfl, by kernel_rfl⟩

-- spec_l10Copy
def sm74 : Sm := ⟨[.val true [(.sl 3 (.one I)), I, .bool, I, I, I, (.sl 3 (.one I)), (.sl 127 k3)]], [(true, [((.sl 3 (.one I)), 2), (I, 0), (.bool, 0), (I, 0), (I, 0), (I, 0), ((.sl 3 (.one I)), 2), ((.sl 127 k3), 2)])]⟩
def an74 : An := ⟨fun _ => none,
  fun _ => none,
  fun _ => none⟩
def s74 (n : Nat) : SmF := ⟨sm74, fun x => N.spec_l10Copy x.1 x.2.1 x.2.2.1 x.2.2.2.1 x.2.2.2.2.1 x.2.2.2.2.2.1 x.2.2.2.2.2.2.1 x.2.2.2.2.2.2.2⟩
def env74 (n : Nat) : List (FuncId × SmF) := []
theorem ev74 (n : Nat) (x : sm74.ins.D) : evFn (find tbl) (find (env74 n)) an74 n Try.f74 sm74 x = N.spec_l10Copy x.1 x.2.1 x.2.2.1 x.2.2.2.1 x.2.2.2.2.1 x.2.2.2.2.2.1 x.2.2.2.2.2.2.1 x.2.2.2.2.2.2.2 := by kernel_rfl
theorem ok74 (n : Nat) : FnOk Try.prog 74 (s74 n) := fn_native (an := an74) (n := n) Try.func74 rfl (by kernel_rfl) tblOk env_nil follows (ev74 n)
theorem body74 : HasBody Try.prog 74 := ⟨_, _, Try.func74, rfl, by kernel_rfl⟩

-- spec_l1In
def sm76 : Sm := ⟨[.val false [I], .val false [I], .val false [I]], [(false, [(.bool, 0)])]⟩
def an76 : An := ⟨fun _ => none,
  fun _ => none,
  fun _ => none⟩
def s76 (n : Nat) : SmF := ⟨sm76, fun x => N.spec_l1In x.1 x.2.1 x.2.2⟩
def env76 (n : Nat) : List (FuncId × SmF) := []
theorem ev76 (n : Nat) (x : sm76.ins.D) : evFn (find tbl) (find (env76 n)) an76 n Try.f76 sm76 x = N.spec_l1In x.1 x.2.1 x.2.2 := by kernel_rfl
theorem ok76 (n : Nat) : FnOk Try.prog 76 (s76 n) := fn_native (an := an76) (n := n) Try.func76 rfl (by kernel_rfl) tblOk env_nil follows (ev76 n)
theorem body76 : HasBody Try.prog 76 := ⟨_, _, Try.func76, rfl, by kernel_rfl⟩

-- spec_l10Whats
def sm117 : Sm := ⟨[.val false [(.sl 3 (.one I))]], [(false, [(.bool, 0)])]⟩
def an117 : An := ⟨fun _ => none,
  fun b => match b with
    | 0 => some ([.slot 3 I], true)
    | _ => none,
  fun _ => none⟩
def s117 (n : Nat) : SmF := ⟨sm117, fun x => N.spec_l10Whats n x⟩
def env117 (n : Nat) : List (FuncId × SmF) := [(76, s76 n)]
theorem ev117 (n : Nat) (x : sm117.ins.D) : evFn (find tbl) (find (env117 n)) an117 n Try.f117 sm117 x = N.spec_l10Whats n x := by kernel_rfl
theorem ok117 (n : Nat) : FnOk Try.prog 117 (s117 n) := fn_native (an := an117) (n := n) Try.func117 rfl (by kernel_rfl) tblOk (env_cons (ok76 n) body76 env_nil) follows (ev117 n)
theorem body117 : HasBody Try.prog 117 := ⟨_, _, Try.func117, rfl, by kernel_rfl⟩

-- spec_LinkOk
def sm75 : Sm := ⟨[.val true [(.sl 3 (.one I)), I, .bool, I, I, I, (.sl 3 (.one I)), (.sl 127 k3)]], [(false, [(.bool, 0)])]⟩
def an75 : An := ⟨fun _ => none,
  fun b => match b with
    | 0 => some ([.slot 3 I], true)
    | _ => none,
  fun _ => none⟩
def s75 (n : Nat) : SmF := ⟨sm75, fun x => N.spec_LinkOk n x.1 x.2.1 x.2.2.1 x.2.2.2.1 x.2.2.2.2.1 x.2.2.2.2.2.1 x.2.2.2.2.2.2.1 x.2.2.2.2.2.2.2⟩
def env75 (n : Nat) : List (FuncId × SmF) := [(76, s76 n), (117, s117 n)]
theorem ev75 (n : Nat) (x : sm75.ins.D) : evFn (find tbl) (find (env75 n)) an75 n Try.f75 sm75 x = N.spec_LinkOk n x.1 x.2.1 x.2.2.1 x.2.2.2.1 x.2.2.2.2.1 x.2.2.2.2.2.1 x.2.2.2.2.2.2.1 x.2.2.2.2.2.2.2 := by kernel_rfl
theorem ok75 (n : Nat) : FnOk Try.prog 75 (s75 n) := fn_native (an := an75) (n := n) Try.func75 rfl (by kernel_rfl) tblOk (env_cons (ok76 n) body76 (env_cons (ok117 n) body117 env_nil)) follows (ev75 n)
theorem body75 : HasBody Try.prog 75 := ⟨_, _, Try.func75, rfl, by kernel_rfl⟩

-- spec_l10Says
def sm140 : Sm := ⟨[.box [((.sl 3 (.one I)), 2), (I, 0), (.bool, 0), (I, 0), (I, 0), (I, 0), ((.sl 3 (.one I)), 2), ((.sl 127 k3), 2)], .val true [.bool, I, I]], []⟩
def an140 : An := ⟨fun _ => none,
  fun _ => none,
  fun _ => none⟩
def s140 (n : Nat) : SmF := ⟨sm140, fun x => N.spec_l10Says x.1 x.2.1 x.2.2.1 x.2.2.2.1 x.2.2.2.2.1 x.2.2.2.2.2.1 x.2.2.2.2.2.2.1 x.2.2.2.2.2.2.2.1 x.2.2.2.2.2.2.2.2.1 x.2.2.2.2.2.2.2.2.2.1 x.2.2.2.2.2.2.2.2.2.2⟩
def env140 (n : Nat) : List (FuncId × SmF) := []
theorem ev140 (n : Nat) (x : sm140.ins.D) : evFn (find tbl) (find (env140 n)) an140 n Try.f140 sm140 x = N.spec_l10Says x.1 x.2.1 x.2.2.1 x.2.2.2.1 x.2.2.2.2.1 x.2.2.2.2.2.1 x.2.2.2.2.2.2.1 x.2.2.2.2.2.2.2.1 x.2.2.2.2.2.2.2.2.1 x.2.2.2.2.2.2.2.2.2.1 x.2.2.2.2.2.2.2.2.2.2 := by kernel_rfl
theorem ok140 (n : Nat) : FnOk Try.prog 140 (s140 n) := fn_native (an := an140) (n := n) Try.func140 rfl (by kernel_rfl) tblOk env_nil follows (ev140 n)
theorem body140 : HasBody Try.prog 140 := ⟨_, _, Try.func140, rfl, by kernel_rfl⟩

-- spec_l10Tick
def sm124 : Sm := ⟨[.box [((.sl 3 (.one I)), 2), (I, 0), (.bool, 0), (I, 0), (I, 0), (I, 0), ((.sl 3 (.one I)), 2), ((.sl 127 k3), 2)]], []⟩
def an124 : An := ⟨fun _ => none,
  fun _ => none,
  fun b => match b with
    | 3 => some ([.box 0 [some ((.sl 3 (.one I)), 2), some (I, 0), some (.bool, 0), some (I, 0), some (I, 0), some (I, 0), some ((.sl 3 (.one I)), 2), some ((.sl 127 k3), 2)]], false)
    | _ => none⟩
def s124 (n : Nat) : SmF := ⟨sm124, fun x => N.spec_l10Tick x.1 x.2.1 x.2.2.1 x.2.2.2.1 x.2.2.2.2.1 x.2.2.2.2.2.1 x.2.2.2.2.2.2.1 x.2.2.2.2.2.2.2⟩
def env124 (n : Nat) : List (FuncId × SmF) := [(140, s140 n)]
theorem ev124 (n : Nat) (x : sm124.ins.D) : evFn (find tbl) (find (env124 n)) an124 n Try.f124 sm124 x = N.spec_l10Tick x.1 x.2.1 x.2.2.1 x.2.2.2.1 x.2.2.2.2.1 x.2.2.2.2.2.1 x.2.2.2.2.2.2.1 x.2.2.2.2.2.2.2 := by kernel_rfl
theorem ok124 (n : Nat) : FnOk Try.prog 124 (s124 n) := fn_native (an := an124) (n := n) Try.func124 rfl (by kernel_rfl) tblOk (env_cons (ok140 n) body140 env_nil) follows (ev124 n)
theorem body124 : HasBody Try.prog 124 := ⟨_, _, Try.func124, rfl, by kernel_rfl⟩

-- spec_l10Hear
def sm125 : Sm := ⟨[.box [((.sl 3 (.one I)), 2), (I, 0), (.bool, 0), (I, 0), (I, 0), (I, 0), ((.sl 3 (.one I)), 2), ((.sl 127 k3), 2)], .val true [.bool, I, I]], []⟩
def an125 : An := ⟨fun _ => none,
  fun _ => none,
  fun b => match b with
    | 18 => some ([.box 0 [some ((.sl 3 (.one I)), 2), some (I, 0), some (.bool, 0), some (I, 0), some (I, 0), some (I, 0), some ((.sl 3 (.one I)), 2), some ((.sl 127 k3), 2)]], false)
    | _ => none⟩
def s125 (n : Nat) : SmF := ⟨sm125, fun x => N.spec_l10Hear x.1 x.2.1 x.2.2.1 x.2.2.2.1 x.2.2.2.2.1 x.2.2.2.2.2.1 x.2.2.2.2.2.2.1 x.2.2.2.2.2.2.2.1 x.2.2.2.2.2.2.2.2.1 x.2.2.2.2.2.2.2.2.2.1 x.2.2.2.2.2.2.2.2.2.2⟩
def env125 (n : Nat) : List (FuncId × SmF) := [(140, s140 n)]
theorem ev125 (n : Nat) (x : sm125.ins.D) : evFn (find tbl) (find (env125 n)) an125 n Try.f125 sm125 x = N.spec_l10Hear x.1 x.2.1 x.2.2.1 x.2.2.2.1 x.2.2.2.2.1 x.2.2.2.2.2.1 x.2.2.2.2.2.2.1 x.2.2.2.2.2.2.2.1 x.2.2.2.2.2.2.2.2.1 x.2.2.2.2.2.2.2.2.2.1 x.2.2.2.2.2.2.2.2.2.2 := by kernel_rfl
theorem ok125 (n : Nat) : FnOk Try.prog 125 (s125 n) := fn_native (an := an125) (n := n) Try.func125 rfl (by kernel_rfl) tblOk (env_cons (ok140 n) body140 env_nil) follows (ev125 n)
theorem body125 : HasBody Try.prog 125 := ⟨_, _, Try.func125, rfl, by kernel_rfl⟩

-- spec_l10Do
def sm91 : Sm := ⟨[.box [((.sl 3 (.one I)), 2), (I, 0), (.bool, 0), (I, 0), (I, 0), (I, 0), ((.sl 3 (.one I)), 2), ((.sl 127 k3), 2)], .val false [I], .val false [I]], [(false, [(.bool, 0)])]⟩
def an91 : An := ⟨fun _ => none,
  fun _ => none,
  fun b => match b with
    | 36 => some ([.box 0 [some ((.sl 3 (.one I)), 2), some (I, 0), some (.bool, 0), some (I, 0), some (I, 0), some (I, 0), some ((.sl 3 (.one I)), 2), some ((.sl 127 k3), 2)]], false)
    | _ => none⟩
def s91 (n : Nat) : SmF := ⟨sm91, fun x => N.spec_l10Do x.1 x.2.1 x.2.2.1 x.2.2.2.1 x.2.2.2.2.1 x.2.2.2.2.2.1 x.2.2.2.2.2.2.1 x.2.2.2.2.2.2.2.1 x.2.2.2.2.2.2.2.2.1 x.2.2.2.2.2.2.2.2.2⟩
def env91 (n : Nat) : List (FuncId × SmF) := [(76, s76 n), (124, s124 n), (125, s125 n)]
theorem ev91 (n : Nat) (x : sm91.ins.D) : evFn (find tbl) (find (env91 n)) an91 n Try.f91 sm91 x = N.spec_l10Do x.1 x.2.1 x.2.2.1 x.2.2.2.1 x.2.2.2.2.1 x.2.2.2.2.2.1 x.2.2.2.2.2.2.1 x.2.2.2.2.2.2.2.1 x.2.2.2.2.2.2.2.2.1 x.2.2.2.2.2.2.2.2.2 := by kernel_rfl
theorem ok91 (n : Nat) : FnOk Try.prog 91 (s91 n) := fn_native (an := an91) (n := n) Try.func91 rfl (by kernel_rfl) tblOk (env_cons (ok76 n) body76 (env_cons (ok124 n) body124 (env_cons (ok125 n) body125 env_nil))) follows (ev91 n)
theorem body91 : HasBody Try.prog 91 := ⟨_, _, Try.func91, rfl, by kernel_rfl⟩

-- spec_LinkDo
def sm43 : Sm := ⟨[.val true [(.sl 3 (.one I)), I, .bool, I, I, I, (.sl 3 (.one I)), (.sl 127 k3)], .val false [I], .val false [I]], [(true, [((.sl 3 (.one I)), 2), (I, 0), (.bool, 0), (I, 0), (I, 0), (I, 0), ((.sl 3 (.one I)), 2), ((.sl 127 k3), 2)]), (false, [(.bool, 0)])]⟩
def an43 : An := ⟨fun _ => none,
  fun _ => none,
  fun _ => none⟩
def s43 (n : Nat) : SmF := ⟨sm43, fun x => N.spec_LinkDo n x.1 x.2.1 x.2.2.1 x.2.2.2.1 x.2.2.2.2.1 x.2.2.2.2.2.1 x.2.2.2.2.2.2.1 x.2.2.2.2.2.2.2.1 x.2.2.2.2.2.2.2.2.1 x.2.2.2.2.2.2.2.2.2⟩
def env43 (n : Nat) : List (FuncId × SmF) := [(74, s74 n), (75, s75 n), (91, s91 n)]
theorem ev43 (n : Nat) (x : sm43.ins.D) : evFn (find tbl) (find (env43 n)) an43 n Try.f43 sm43 x = N.spec_LinkDo n x.1 x.2.1 x.2.2.1 x.2.2.2.1 x.2.2.2.2.1 x.2.2.2.2.2.1 x.2.2.2.2.2.2.1 x.2.2.2.2.2.2.2.1 x.2.2.2.2.2.2.2.2.1 x.2.2.2.2.2.2.2.2.2 := by kernel_rfl
theorem ok43 (n : Nat) : FnOk Try.prog 43 (s43 n) := fn_native (an := an43) (n := n) Try.func43 rfl (by kernel_rfl) tblOk (env_cons (ok74 n) body74 (env_cons (ok75 n) body75 (env_cons (ok91 n) body91 env_nil))) follows (ev43 n)
theorem body43 : HasBody Try.prog 43 := ⟨_, _, Try.func43, rfl, by kernel_rfl⟩

-- impl_copyInts
def sm119 : Sm := ⟨[.val false [(.sl 3 (.one I))]], [(false, [((.sl 3 (.one I)), 2)])]⟩
def an119 : An := ⟨fun _ => none,
  fun _ => none,
  fun _ => none⟩
def s119 (n : Nat) : SmF := ⟨sm119, fun x => N.impl_copyInts x⟩
def env119 (n : Nat) : List (FuncId × SmF) := []
theorem ev119 (n : Nat) (x : sm119.ins.D) : evFn (find tbl) (find (env119 n)) an119 n Try.f119 sm119 x = N.impl_copyInts x := by kernel_rfl
theorem ok119 (n : Nat) : FnOk Try.prog 119 (s119 n) := fn_native (an := an119) (n := n) Try.func119 rfl (by kernel_rfl) tblOk env_nil follows (ev119 n)
theorem body119 : HasBody Try.prog 119 := ⟨_, _, Try.func119, rfl, by kernel_rfl⟩

-- impl_copyLink
def sm79 : Sm := ⟨[.val true [(.sl 3 (.one I)), I, .bool, I, I, I, (.sl 3 (.one I)), (.sl 127 k3)]], [(true, [((.sl 3 (.one I)), 2), (I, 0), (.bool, 0), (I, 0), (I, 0), (I, 0), ((.sl 3 (.one I)), 2), ((.sl 127 k3), 2)])]⟩
def an79 : An := ⟨fun _ => none,
  fun _ => none,
  fun _ => none⟩
def s79 (n : Nat) : SmF := ⟨sm79, fun x => N.impl_copyLink x.1 x.2.1 x.2.2.1 x.2.2.2.1 x.2.2.2.2.1 x.2.2.2.2.2.1 x.2.2.2.2.2.2.1 x.2.2.2.2.2.2.2⟩
def env79 (n : Nat) : List (FuncId × SmF) := [(119, s119 n)]
theorem ev79 (n : Nat) (x : sm79.ins.D) : evFn (find tbl) (find (env79 n)) an79 n Try.f79 sm79 x = N.impl_copyLink x.1 x.2.1 x.2.2.1 x.2.2.2.1 x.2.2.2.2.1 x.2.2.2.2.2.1 x.2.2.2.2.2.2.1 x.2.2.2.2.2.2.2 := by kernel_rfl
theorem ok79 (n : Nat) : FnOk Try.prog 79 (s79 n) := fn_native (an := an79) (n := n) Try.func79 rfl (by kernel_rfl) tblOk (env_cons (ok119 n) body119 env_nil) follows (ev79 n)
theorem body79 : HasBody Try.prog 79 := ⟨_, _, Try.func79, rfl, by kernel_rfl⟩

-- impl_in
def sm81 : Sm := ⟨[.val false [I], .val false [I], .val false [I]], [(false, [(.bool, 0)])]⟩
def an81 : An := ⟨fun _ => none,
  fun _ => none,
  fun _ => none⟩
def s81 (n : Nat) : SmF := ⟨sm81, fun x => N.impl_in x.1 x.2.1 x.2.2⟩
def env81 (n : Nat) : List (FuncId × SmF) := []
theorem ev81 (n : Nat) (x : sm81.ins.D) : evFn (find tbl) (find (env81 n)) an81 n Try.f81 sm81 x = N.impl_in x.1 x.2.1 x.2.2 := by kernel_rfl
theorem ok81 (n : Nat) : FnOk Try.prog 81 (s81 n) := fn_native (an := an81) (n := n) Try.func81 rfl (by kernel_rfl) tblOk env_nil follows (ev81 n)
theorem body81 : HasBody Try.prog 81 := ⟨_, _, Try.func81, rfl, by kernel_rfl⟩

-- impl_whatsOk
def sm120 : Sm := ⟨[.val false [(.sl 3 (.one I))]], [(false, [(.bool, 0)])]⟩
def an120 : An := ⟨fun _ => none,
  fun b => match b with
    | 0 => some ([.slot 7 I], true)
    | _ => none,
  fun _ => none⟩
def s120 (n : Nat) : SmF := ⟨sm120, fun x => N.impl_whatsOk n x⟩
def env120 (n : Nat) : List (FuncId × SmF) := [(81, s81 n)]
theorem ev120 (n : Nat) (x : sm120.ins.D) : evFn (find tbl) (find (env120 n)) an120 n Try.f120 sm120 x = N.impl_whatsOk n x := by kernel_rfl
theorem ok120 (n : Nat) : FnOk Try.prog 120 (s120 n) := fn_native (an := an120) (n := n) Try.func120 rfl (by kernel_rfl) tblOk (env_cons (ok81 n) body81 env_nil) follows (ev120 n)
theorem body120 : HasBody Try.prog 120 := ⟨_, _, Try.func120, rfl, by kernel_rfl⟩

-- impl_airOk
def sm121 : Sm := ⟨[.val false [(.sl 127 k3)]], [(false, [(.bool, 0)])]⟩
def an121 : An := ⟨fun _ => none,
  fun b => match b with
    | 0 => some ([.slot 7 I], true)
    | _ => none,
  fun _ => none⟩
def s121 (n : Nat) : SmF := ⟨sm121, fun x => N.impl_airOk n x⟩
def env121 (n : Nat) : List (FuncId × SmF) := [(81, s81 n)]
theorem ev121 (n : Nat) (x : sm121.ins.D) : evFn (find tbl) (find (env121 n)) an121 n Try.f121 sm121 x = N.impl_airOk n x := by kernel_rfl
theorem ok121 (n : Nat) : FnOk Try.prog 121 (s121 n) := fn_native (an := an121) (n := n) Try.func121 rfl (by kernel_rfl) tblOk (env_cons (ok81 n) body81 env_nil) follows (ev121 n)
theorem body121 : HasBody Try.prog 121 := ⟨_, _, Try.func121, rfl, by kernel_rfl⟩

-- impl_LinkOk
def sm80 : Sm := ⟨[.val true [(.sl 3 (.one I)), I, .bool, I, I, I, (.sl 3 (.one I)), (.sl 127 k3)]], [(false, [(.bool, 0)])]⟩
def an80 : An := ⟨fun _ => none,
  fun _ => none,
  fun _ => none⟩
def s80 (n : Nat) : SmF := ⟨sm80, fun x => N.impl_LinkOk n x.1 x.2.1 x.2.2.1 x.2.2.2.1 x.2.2.2.2.1 x.2.2.2.2.2.1 x.2.2.2.2.2.2.1 x.2.2.2.2.2.2.2⟩
def env80 (n : Nat) : List (FuncId × SmF) := [(81, s81 n), (120, s120 n), (121, s121 n)]
theorem ev80 (n : Nat) (x : sm80.ins.D) : evFn (find tbl) (find (env80 n)) an80 n Try.f80 sm80 x = N.impl_LinkOk n x.1 x.2.1 x.2.2.1 x.2.2.2.1 x.2.2.2.2.1 x.2.2.2.2.2.1 x.2.2.2.2.2.2.1 x.2.2.2.2.2.2.2 := by kernel_rfl
theorem ok80 (n : Nat) : FnOk Try.prog 80 (s80 n) := fn_native (an := an80) (n := n) Try.func80 rfl (by kernel_rfl) tblOk (env_cons (ok81 n) body81 (env_cons (ok120 n) body120 (env_cons (ok121 n) body121 env_nil))) follows (ev80 n)
theorem body80 : HasBody Try.prog 80 := ⟨_, _, Try.func80, rfl, by kernel_rfl⟩

-- impl_Link_say
def sm95 : Sm := ⟨[.box [((.sl 3 (.one I)), 2), (I, 0), (.bool, 0), (I, 0), (I, 0), (I, 0), ((.sl 3 (.one I)), 2), ((.sl 127 k3), 2)], .val true [.bool, I, I]], []⟩
def an95 : An := ⟨fun _ => none,
  fun _ => none,
  fun _ => none⟩
def s95 (n : Nat) : SmF := ⟨sm95, fun x => N.impl_Link_say x.1 x.2.1 x.2.2.1 x.2.2.2.1 x.2.2.2.2.1 x.2.2.2.2.2.1 x.2.2.2.2.2.2.1 x.2.2.2.2.2.2.2.1 x.2.2.2.2.2.2.2.2.1 x.2.2.2.2.2.2.2.2.2.1 x.2.2.2.2.2.2.2.2.2.2⟩
def env95 (n : Nat) : List (FuncId × SmF) := []
theorem ev95 (n : Nat) (x : sm95.ins.D) : evFn (find tbl) (find (env95 n)) an95 n Try.f95 sm95 x = N.impl_Link_say x.1 x.2.1 x.2.2.1 x.2.2.2.1 x.2.2.2.2.1 x.2.2.2.2.2.1 x.2.2.2.2.2.2.1 x.2.2.2.2.2.2.2.1 x.2.2.2.2.2.2.2.2.1 x.2.2.2.2.2.2.2.2.2.1 x.2.2.2.2.2.2.2.2.2.2 := by kernel_rfl
theorem ok95 (n : Nat) : FnOk Try.prog 95 (s95 n) := fn_native (an := an95) (n := n) Try.func95 rfl (by kernel_rfl) tblOk env_nil follows (ev95 n)
theorem body95 : HasBody Try.prog 95 := ⟨_, _, Try.func95, rfl, by kernel_rfl⟩

-- impl_Link_tick
def sm92 : Sm := ⟨[.box [((.sl 3 (.one I)), 2), (I, 0), (.bool, 0), (I, 0), (I, 0), (I, 0), ((.sl 3 (.one I)), 2), ((.sl 127 k3), 2)]], []⟩
def an92 : An := ⟨fun _ => none,
  fun _ => none,
  fun b => match b with
    | 3 => some ([.box 0 [some ((.sl 3 (.one I)), 2), some (I, 0), some (.bool, 0), some (I, 0), some (I, 0), some (I, 0), some ((.sl 3 (.one I)), 2), some ((.sl 127 k3), 2)]], false)
    | 4 => some ([.box 0 [some ((.sl 3 (.one I)), 2), some (I, 0), some (.bool, 0), some (I, 0), some (I, 0), some (I, 0), some ((.sl 3 (.one I)), 2), some ((.sl 127 k3), 2)]], true)
    | _ => none⟩
def s92 (n : Nat) : SmF := ⟨sm92, fun x => N.impl_Link_tick x.1 x.2.1 x.2.2.1 x.2.2.2.1 x.2.2.2.2.1 x.2.2.2.2.2.1 x.2.2.2.2.2.2.1 x.2.2.2.2.2.2.2⟩
def env92 (n : Nat) : List (FuncId × SmF) := [(95, s95 n)]
theorem ev92 (n : Nat) (x : sm92.ins.D) : evFn (find tbl) (find (env92 n)) an92 n Try.f92 sm92 x = N.impl_Link_tick x.1 x.2.1 x.2.2.1 x.2.2.2.1 x.2.2.2.2.1 x.2.2.2.2.2.1 x.2.2.2.2.2.2.1 x.2.2.2.2.2.2.2 := by kernel_rfl
theorem ok92 (n : Nat) : FnOk Try.prog 92 (s92 n) := fn_native (an := an92) (n := n) Try.func92 rfl (by kernel_rfl) tblOk (env_cons (ok95 n) body95 env_nil) follows (ev92 n)
theorem body92 : HasBody Try.prog 92 := ⟨_, _, Try.func92, rfl, by kernel_rfl⟩

-- impl_Link_drop
def sm94 : Sm := ⟨[.box [((.sl 3 (.one I)), 2), (I, 0), (.bool, 0), (I, 0), (I, 0), (I, 0), ((.sl 3 (.one I)), 2), ((.sl 127 k3), 2)], .val false [I]], [(true, [(.bool, 0), (I, 0), (I, 0)])]⟩
def an94 : An := ⟨fun _ => none,
  fun _ => none,
  fun _ => none⟩
def s94 (n : Nat) : SmF := ⟨sm94, fun x => N.impl_Link_drop x.1 x.2.1 x.2.2.1 x.2.2.2.1 x.2.2.2.2.1 x.2.2.2.2.2.1 x.2.2.2.2.2.2.1 x.2.2.2.2.2.2.2.1 x.2.2.2.2.2.2.2.2⟩
def env94 (n : Nat) : List (FuncId × SmF) := []
theorem ev94 (n : Nat) (x : sm94.ins.D) : evFn (find tbl) (find (env94 n)) an94 n Try.f94 sm94 x = N.impl_Link_drop x.1 x.2.1 x.2.2.1 x.2.2.2.1 x.2.2.2.2.1 x.2.2.2.2.2.1 x.2.2.2.2.2.2.1 x.2.2.2.2.2.2.2.1 x.2.2.2.2.2.2.2.2 := by kernel_rfl
theorem ok94 (n : Nat) : FnOk Try.prog 94 (s94 n) := fn_native (an := an94) (n := n) Try.func94 rfl (by kernel_rfl) tblOk env_nil follows (ev94 n)
theorem body94 : HasBody Try.prog 94 := ⟨_, _, Try.func94, rfl, by kernel_rfl⟩

-- impl_Link_hear
def sm93 : Sm := ⟨[.box [((.sl 3 (.one I)), 2), (I, 0), (.bool, 0), (I, 0), (I, 0), (I, 0), ((.sl 3 (.one I)), 2), ((.sl 127 k3), 2)], .val false [I]], []⟩
def an93 : An := ⟨fun _ => none,
  fun _ => none,
  fun b => match b with
    | 18 => some ([.box 0 [some ((.sl 3 (.one I)), 2), some (I, 0), some (.bool, 0), some (I, 0), some (I, 0), some (I, 0), some ((.sl 3 (.one I)), 2), some ((.sl 127 k3), 2)]], false)
    | _ => none⟩
def s93 (n : Nat) : SmF := ⟨sm93, fun x => N.impl_Link_hear x.1 x.2.1 x.2.2.1 x.2.2.2.1 x.2.2.2.2.1 x.2.2.2.2.2.1 x.2.2.2.2.2.2.1 x.2.2.2.2.2.2.2.1 x.2.2.2.2.2.2.2.2⟩
def env93 (n : Nat) : List (FuncId × SmF) := [(94, s94 n), (95, s95 n), (119, s119 n)]
theorem ev93 (n : Nat) (x : sm93.ins.D) : evFn (find tbl) (find (env93 n)) an93 n Try.f93 sm93 x = N.impl_Link_hear x.1 x.2.1 x.2.2.1 x.2.2.2.1 x.2.2.2.2.1 x.2.2.2.2.2.1 x.2.2.2.2.2.2.1 x.2.2.2.2.2.2.2.1 x.2.2.2.2.2.2.2.2 := by kernel_rfl
theorem ok93 (n : Nat) : FnOk Try.prog 93 (s93 n) := fn_native (an := an93) (n := n) Try.func93 rfl (by kernel_rfl) tblOk (env_cons (ok94 n) body94 (env_cons (ok95 n) body95 (env_cons (ok119 n) body119 env_nil))) follows (ev93 n)
theorem body93 : HasBody Try.prog 93 := ⟨_, _, Try.func93, rfl, by kernel_rfl⟩

-- impl_LinkDo
def sm44 : Sm := ⟨[.val true [(.sl 3 (.one I)), I, .bool, I, I, I, (.sl 3 (.one I)), (.sl 127 k3)], .val false [I], .val false [I]], [(true, [((.sl 3 (.one I)), 2), (I, 0), (.bool, 0), (I, 0), (I, 0), (I, 0), ((.sl 3 (.one I)), 2), ((.sl 127 k3), 2)]), (false, [(.bool, 0)])]⟩
def an44 : An := ⟨fun _ => none,
  fun _ => none,
  fun b => match b with
    | 4 => some ([.box 6 [some ((.sl 3 (.one I)), 2), some (I, 0), some (.bool, 0), some (I, 0), some (I, 0), some (I, 0), some ((.sl 3 (.one I)), 2), some ((.sl 127 k3), 2)], .box 8 [some ((.sl 3 (.one I)), 2), some (I, 0), some (.bool, 0), some (I, 0), some (I, 0), some (I, 0), some ((.sl 3 (.one I)), 2), some ((.sl 127 k3), 2)]], true)
    | _ => none⟩
def s44 (n : Nat) : SmF := ⟨sm44, fun x => N.impl_LinkDo n x.1 x.2.1 x.2.2.1 x.2.2.2.1 x.2.2.2.2.1 x.2.2.2.2.2.1 x.2.2.2.2.2.2.1 x.2.2.2.2.2.2.2.1 x.2.2.2.2.2.2.2.2.1 x.2.2.2.2.2.2.2.2.2⟩
def env44 (n : Nat) : List (FuncId × SmF) := [(79, s79 n), (80, s80 n), (81, s81 n), (92, s92 n), (93, s93 n), (94, s94 n), (95, s95 n)]
theorem ev44 (n : Nat) (x : sm44.ins.D) : evFn (find tbl) (find (env44 n)) an44 n Try.f44 sm44 x = N.impl_LinkDo n x.1 x.2.1 x.2.2.1 x.2.2.2.1 x.2.2.2.2.1 x.2.2.2.2.2.1 x.2.2.2.2.2.2.1 x.2.2.2.2.2.2.2.1 x.2.2.2.2.2.2.2.2.1 x.2.2.2.2.2.2.2.2.2 := by kernel_rfl
theorem ok44 (n : Nat) : FnOk Try.prog 44 (s44 n) := fn_native (an := an44) (n := n) Try.func44 rfl (by kernel_rfl) tblOk (env_cons (ok79 n) body79 (env_cons (ok80 n) body80 (env_cons (ok81 n) body81 (env_cons (ok92 n) body92 (env_cons (ok93 n) body93 (env_cons (ok94 n) body94 (env_cons (ok95 n) body95 env_nil))))))) follows (ev44 n)
theorem body44 : HasBody Try.prog 44 := ⟨_, _, Try.func44, rfl, by kernel_rfl⟩

-- laws_eqIntS
def sm56 : Sm := ⟨[.val false [(.sl 3 (.one I))], .val false [(.sl 3 (.one I))]], [(false, [(.bool, 0)])]⟩
def an56 : An := ⟨fun _ => none,
  fun b => match b with
    | 0 => some ([.slot 5 I], true)
    | _ => none,
  fun _ => none⟩
def s56 (n : Nat) : SmF := ⟨sm56, fun x => N.laws_eqIntS n x.1 x.2⟩
def env56 (n : Nat) : List (FuncId × SmF) := []
theorem ev56 (n : Nat) (x : sm56.ins.D) : evFn (find tbl) (find (env56 n)) an56 n Try.f56 sm56 x = N.laws_eqIntS n x.1 x.2 := by kernel_rfl
theorem ok56 (n : Nat) : FnOk Try.prog 56 (s56 n) := fn_native (an := an56) (n := n) Try.func56 rfl (by kernel_rfl) tblOk env_nil follows (ev56 n)
theorem body56 : HasBody Try.prog 56 := ⟨_, _, Try.func56, rfl, by kernel_rfl⟩

-- laws_eqWord
def sm111 : Sm := ⟨[.val true [.bool, I, I], .val true [.bool, I, I]], [(false, [(.bool, 0)])]⟩
def an111 : An := ⟨fun _ => none,
  fun _ => none,
  fun _ => none⟩
def s111 (n : Nat) : SmF := ⟨sm111, fun x => N.laws_eqWord x.1 x.2.1 x.2.2.1 x.2.2.2.1 x.2.2.2.2.1 x.2.2.2.2.2⟩
def env111 (n : Nat) : List (FuncId × SmF) := []
theorem ev111 (n : Nat) (x : sm111.ins.D) : evFn (find tbl) (find (env111 n)) an111 n Try.f111 sm111 x = N.laws_eqWord x.1 x.2.1 x.2.2.1 x.2.2.2.1 x.2.2.2.2.1 x.2.2.2.2.2 := by kernel_rfl
theorem ok111 (n : Nat) : FnOk Try.prog 111 (s111 n) := fn_native (an := an111) (n := n) Try.func111 rfl (by kernel_rfl) tblOk env_nil follows (ev111 n)
theorem body111 : HasBody Try.prog 111 := ⟨_, _, Try.func111, rfl, by kernel_rfl⟩

-- laws_eqWordS
def sm57 : Sm := ⟨[.val false [(.sl 127 k3)], .val false [(.sl 127 k3)]], [(false, [(.bool, 0)])]⟩
def an57 : An := ⟨fun _ => none,
  fun b => match b with
    | 0 => some ([.slot 5 I], true)
    | _ => none,
  fun _ => none⟩
def s57 (n : Nat) : SmF := ⟨sm57, fun x => N.laws_eqWordS n x.1 x.2⟩
def env57 (n : Nat) : List (FuncId × SmF) := [(111, s111 n)]
theorem ev57 (n : Nat) (x : sm57.ins.D) : evFn (find tbl) (find (env57 n)) an57 n Try.f57 sm57 x = N.laws_eqWordS n x.1 x.2 := by kernel_rfl
theorem ok57 (n : Nat) : FnOk Try.prog 57 (s57 n) := fn_native (an := an57) (n := n) Try.func57 rfl (by kernel_rfl) tblOk (env_cons (ok111 n) body111 env_nil) follows (ev57 n)
theorem body57 : HasBody Try.prog 57 := ⟨_, _, Try.func57, rfl, by kernel_rfl⟩

-- laws_eqLink
def sm15 : Sm := ⟨[.val true [(.sl 3 (.one I)), I, .bool, I, I, I, (.sl 3 (.one I)), (.sl 127 k3)], .val true [(.sl 3 (.one I)), I, .bool, I, I, I, (.sl 3 (.one I)), (.sl 127 k3)]], [(false, [(.bool, 0)])]⟩
def an15 : An := ⟨fun _ => none,
  fun _ => none,
  fun _ => none⟩
def s15 (n : Nat) : SmF := ⟨sm15, fun x => N.laws_eqLink n x.1 x.2.1 x.2.2.1 x.2.2.2.1 x.2.2.2.2.1 x.2.2.2.2.2.1 x.2.2.2.2.2.2.1 x.2.2.2.2.2.2.2.1 x.2.2.2.2.2.2.2.2.1 x.2.2.2.2.2.2.2.2.2.1 x.2.2.2.2.2.2.2.2.2.2.1 x.2.2.2.2.2.2.2.2.2.2.2.1 x.2.2.2.2.2.2.2.2.2.2.2.2.1 x.2.2.2.2.2.2.2.2.2.2.2.2.2.1 x.2.2.2.2.2.2.2.2.2.2.2.2.2.2.1 x.2.2.2.2.2.2.2.2.2.2.2.2.2.2.2⟩
def env15 (n : Nat) : List (FuncId × SmF) := [(56, s56 n), (57, s57 n)]
theorem ev15 (n : Nat) (x : sm15.ins.D) : evFn (find tbl) (find (env15 n)) an15 n Try.f15 sm15 x = N.laws_eqLink n x.1 x.2.1 x.2.2.1 x.2.2.2.1 x.2.2.2.2.1 x.2.2.2.2.2.1 x.2.2.2.2.2.2.1 x.2.2.2.2.2.2.2.1 x.2.2.2.2.2.2.2.2.1 x.2.2.2.2.2.2.2.2.2.1 x.2.2.2.2.2.2.2.2.2.2.1 x.2.2.2.2.2.2.2.2.2.2.2.1 x.2.2.2.2.2.2.2.2.2.2.2.2.1 x.2.2.2.2.2.2.2.2.2.2.2.2.2.1 x.2.2.2.2.2.2.2.2.2.2.2.2.2.2.1 x.2.2.2.2.2.2.2.2.2.2.2.2.2.2.2 := by kernel_rfl
theorem ok15 (n : Nat) : FnOk Try.prog 15 (s15 n) := fn_native (an := an15) (n := n) Try.func15 rfl (by kernel_rfl) tblOk (env_cons (ok56 n) body56 (env_cons (ok57 n) body57 env_nil)) follows (ev15 n)
theorem body15 : HasBody Try.prog 15 := ⟨_, _, Try.func15, rfl, by kernel_rfl⟩

-- laws_markIntS
def sm58 : Sm := ⟨[.row false [((.sl 3 (.one I)), 2)], .val false [I]], [(false, [(I, 0)])]⟩
def an58 : An := ⟨fun _ => none,
  fun b => match b with
    | 0 => some ([.slot 1 I, .slot 5 I, .own 0 3 (.one I) 2 true], false)
    | _ => none,
  fun _ => none⟩
def s58 (n : Nat) : SmF := ⟨sm58, fun x => N.laws_markIntS n x.1 x.2⟩
def env58 (n : Nat) : List (FuncId × SmF) := []
theorem ev58 (n : Nat) (x : sm58.ins.D) : evFn (find tbl) (find (env58 n)) an58 n Try.f58 sm58 x = N.laws_markIntS n x.1 x.2 := by kernel_rfl
theorem ok58 (n : Nat) : FnOk Try.prog 58 (s58 n) := fn_native (an := an58) (n := n) Try.func58 rfl (by kernel_rfl) tblOk env_nil follows (ev58 n)
theorem body58 : HasBody Try.prog 58 := ⟨_, _, Try.func58, rfl, by kernel_rfl⟩

-- laws_markWordS
def sm59 : Sm := ⟨[.row false [((.sl 127 k3), 2)], .val false [I]], [(false, [(I, 0)])]⟩
def an59 : An := ⟨fun _ => none,
  fun b => match b with
    | 0 => some ([.slot 1 I, .slot 5 I, .own 0 127 k3 2 true], false)
    | _ => none,
  fun _ => none⟩
def s59 (n : Nat) : SmF := ⟨sm59, fun x => N.laws_markWordS n x.1 x.2⟩
def env59 (n : Nat) : List (FuncId × SmF) := []
theorem ev59 (n : Nat) (x : sm59.ins.D) : evFn (find tbl) (find (env59 n)) an59 n Try.f59 sm59 x = N.laws_markWordS n x.1 x.2 := by kernel_rfl
theorem ok59 (n : Nat) : FnOk Try.prog 59 (s59 n) := fn_native (an := an59) (n := n) Try.func59 rfl (by kernel_rfl) tblOk env_nil follows (ev59 n)
theorem body59 : HasBody Try.prog 59 := ⟨_, _, Try.func59, rfl, by kernel_rfl⟩

-- laws_markLink
def sm16 : Sm := ⟨[.row true [((.sl 3 (.one I)), 2), (I, 0), (.bool, 0), (I, 0), (I, 0), (I, 0), ((.sl 3 (.one I)), 2), ((.sl 127 k3), 2)], .val false [I]], [(false, [(I, 0)])]⟩
def an16 : An := ⟨fun _ => none,
  fun _ => none,
  fun _ => none⟩
def s16 (n : Nat) : SmF := ⟨sm16, fun x => N.laws_markLink n x.1 x.2.1 x.2.2.1 x.2.2.2.1 x.2.2.2.2.1 x.2.2.2.2.2.1 x.2.2.2.2.2.2.1 x.2.2.2.2.2.2.2.1 x.2.2.2.2.2.2.2.2⟩
def env16 (n : Nat) : List (FuncId × SmF) := [(58, s58 n), (59, s59 n)]
theorem ev16 (n : Nat) (x : sm16.ins.D) : evFn (find tbl) (find (env16 n)) an16 n Try.f16 sm16 x = N.laws_markLink n x.1 x.2.1 x.2.2.1 x.2.2.2.1 x.2.2.2.2.1 x.2.2.2.2.2.1 x.2.2.2.2.2.2.1 x.2.2.2.2.2.2.2.1 x.2.2.2.2.2.2.2.2 := by kernel_rfl
theorem ok16 (n : Nat) : FnOk Try.prog 16 (s16 n) := fn_native (an := an16) (n := n) Try.func16 rfl (by kernel_rfl) tblOk (env_cons (ok58 n) body58 (env_cons (ok59 n) body59 env_nil)) follows (ev16 n)
theorem body16 : HasBody Try.prog 16 := ⟨_, _, Try.func16, rfl, by kernel_rfl⟩

-- laws_heldIntS
def sm60 : Sm := ⟨[.val false [(.sl 3 (.one I))], .val false [I]], [(false, [(I, 0)])]⟩
def an60 : An := ⟨fun _ => none,
  fun b => match b with
    | 0 => some ([.slot 1 I, .slot 5 I], true)
    | _ => none,
  fun _ => none⟩
def s60 (n : Nat) : SmF := ⟨sm60, fun x => N.laws_heldIntS n x.1 x.2⟩
def env60 (n : Nat) : List (FuncId × SmF) := []
theorem ev60 (n : Nat) (x : sm60.ins.D) : evFn (find tbl) (find (env60 n)) an60 n Try.f60 sm60 x = N.laws_heldIntS n x.1 x.2 := by kernel_rfl
theorem ok60 (n : Nat) : FnOk Try.prog 60 (s60 n) := fn_native (an := an60) (n := n) Try.func60 rfl (by kernel_rfl) tblOk env_nil follows (ev60 n)
theorem body60 : HasBody Try.prog 60 := ⟨_, _, Try.func60, rfl, by kernel_rfl⟩

-- laws_heldWordS
def sm61 : Sm := ⟨[.val false [(.sl 127 k3)], .val false [I]], [(false, [(I, 0)])]⟩
def an61 : An := ⟨fun _ => none,
  fun b => match b with
    | 0 => some ([.slot 1 I, .slot 5 I], true)
    | _ => none,
  fun _ => none⟩
def s61 (n : Nat) : SmF := ⟨sm61, fun x => N.laws_heldWordS n x.1 x.2⟩
def env61 (n : Nat) : List (FuncId × SmF) := []
theorem ev61 (n : Nat) (x : sm61.ins.D) : evFn (find tbl) (find (env61 n)) an61 n Try.f61 sm61 x = N.laws_heldWordS n x.1 x.2 := by kernel_rfl
theorem ok61 (n : Nat) : FnOk Try.prog 61 (s61 n) := fn_native (an := an61) (n := n) Try.func61 rfl (by kernel_rfl) tblOk env_nil follows (ev61 n)
theorem body61 : HasBody Try.prog 61 := ⟨_, _, Try.func61, rfl, by kernel_rfl⟩

-- laws_heldLink
def sm17 : Sm := ⟨[.val true [(.sl 3 (.one I)), I, .bool, I, I, I, (.sl 3 (.one I)), (.sl 127 k3)], .val false [I]], [(false, [(I, 0)])]⟩
def an17 : An := ⟨fun _ => none,
  fun _ => none,
  fun _ => none⟩
def s17 (n : Nat) : SmF := ⟨sm17, fun x => N.laws_heldLink n x.1 x.2.1 x.2.2.1 x.2.2.2.1 x.2.2.2.2.1 x.2.2.2.2.2.1 x.2.2.2.2.2.2.1 x.2.2.2.2.2.2.2.1 x.2.2.2.2.2.2.2.2⟩
def env17 (n : Nat) : List (FuncId × SmF) := [(60, s60 n), (61, s61 n)]
theorem ev17 (n : Nat) (x : sm17.ins.D) : evFn (find tbl) (find (env17 n)) an17 n Try.f17 sm17 x = N.laws_heldLink n x.1 x.2.1 x.2.2.1 x.2.2.2.1 x.2.2.2.2.1 x.2.2.2.2.2.1 x.2.2.2.2.2.2.1 x.2.2.2.2.2.2.2.1 x.2.2.2.2.2.2.2.2 := by kernel_rfl
theorem ok17 (n : Nat) : FnOk Try.prog 17 (s17 n) := fn_native (an := an17) (n := n) Try.func17 rfl (by kernel_rfl) tblOk (env_cons (ok60 n) body60 (env_cons (ok61 n) body61 env_nil)) follows (ev17 n)
theorem body17 : HasBody Try.prog 17 := ⟨_, _, Try.func17, rfl, by kernel_rfl⟩

-- laws_FnExactLinkDo
def sm8 : Sm := ⟨[.val true [(.sl 3 (.one I)), I, .bool, I, I, I, (.sl 3 (.one I)), (.sl 156 k3)], .val false [I], .val false [I]], [(false, [(.bool, 0)])]⟩
def an8 : An := ⟨fun _ => none,
  fun _ => none,
  fun _ => none⟩
def s8 (n : Nat) : SmF := ⟨sm8, fun x => N.laws_FnExactLinkDo n x.1 x.2.1 x.2.2.1 x.2.2.2.1 x.2.2.2.2.1 x.2.2.2.2.2.1 x.2.2.2.2.2.2.1 x.2.2.2.2.2.2.2.1 x.2.2.2.2.2.2.2.2.1 x.2.2.2.2.2.2.2.2.2⟩
def env8 (n : Nat) : List (FuncId × SmF) := [(15, s15 n), (16, s16 n), (17, s17 n), (32, s32 n), (34, s34 n), (43, s43 n), (44, s44 n)]
theorem ev8 (n : Nat) (x : sm8.ins.D) : evFn (find tbl) (find (env8 n)) an8 n Try.f8 sm8 x = N.laws_FnExactLinkDo n x.1 x.2.1 x.2.2.1 x.2.2.2.1 x.2.2.2.2.1 x.2.2.2.2.2.1 x.2.2.2.2.2.2.1 x.2.2.2.2.2.2.2.1 x.2.2.2.2.2.2.2.2.1 x.2.2.2.2.2.2.2.2.2 := by kernel_rfl
theorem ok8 (n : Nat) : FnOk Try.prog 8 (s8 n) := fn_native (an := an8) (n := n) Try.func8 rfl (by kernel_rfl) tblOk (env_cons (ok15 n) body15 (env_cons (ok16 n) body16 (env_cons (ok17 n) body17 (env_cons (ok32 n) body32 (env_cons (ok34 n) body34 (env_cons (ok43 n) body43 (env_cons (ok44 n) body44 env_nil))))))) follows (ev8 n)
theorem body8 : HasBody Try.prog 8 := ⟨_, _, Try.func8, rfl, by kernel_rfl⟩
end Go.Proofs.Ytcilnijdhaidjaa.Ev
