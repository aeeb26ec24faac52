/- Tables of types; summaries of the functions. Conditions: none. -/
import Derived.Test.YtcilnijdhaidjaaLib3
import Derived.Test.YtcilnijdhaidjaaFnExactLinkNewNat
import Derived.Test.YtcilnijdhaidjaaProg
import Derived.KernelRfl
namespace Go.Proofs.Ytcilnijdhaidjaa.Ev
open Go Go.Ev Go.Proofs
set_option linter.unusedVariables false
set_option maxRecDepth 100000

abbrev I : L := .int .i64
def k0 : Ls := (.cons .str (.one (.int .u64)))
def k1 : Ls := (.cons I (.one I))
def k2 : Ls := (.cons I (.cons I (.one I)))
def k3 : Ls := (.cons .bool (.cons I (.one I)))
def k4 : Ls := (.cons I (.cons I (.cons .bool (.one (.int .u8)))))
def k5 : Ls := (.cons I (.cons I (.cons I (.one I))))
def k6 : Ls := (.cons I (.cons I (.cons I (.cons .bool (.one I)))))
def k7 : Ls := (.cons I (.cons I (.one (.sl 3 (.one I)))))
def k8 : Ls := (.cons I (.cons I (.one (.sl 175 k2))))
def k9 : Ls := (.cons I (.cons I (.one (.sl 195 k2))))
def k10 : Ls := (.cons I (.cons I (.cons (.sl 149 k1) (.cons (.sl 151 k2) (.one I)))))
def k11 : Ls := (.cons I (.cons I (.cons (.sl 147 k1) (.cons (.sl 102 k2) (.one I)))))
def k12 : Ls := (.cons (.sl 3 (.one I)) (.cons I (.cons .bool (.cons I (.cons I (.cons I (.cons (.sl 3 (.one I)) (.one (.sl 127 k3)))))))))
def k13 : Ls := (.cons (.sl 3 (.one I)) (.cons I (.cons .bool (.cons I (.cons I (.cons I (.cons (.sl 3 (.one I)) (.one (.sl 156 k3)))))))))
def k14 : Ls := (.cons I (.one (.sl 33 k10)))
def k15 : Ls := (.cons I (.one (.sl 39 k11)))
def k16 : Ls := (.cons I (.cons I (.cons (.sl 3 (.one I)) (.cons (.sl 185 k9) (.cons I (.cons (.sl 33 k10) (.cons (.sl 165 k6) (.cons (.sl 167 k5) (.cons (.sl 3 (.one I)) (.cons (.sl 3 (.one I)) (.one I)))))))))))
def k17 : Ls := (.cons I (.cons I (.cons (.sl 3 (.one I)) (.cons (.sl 179 k8) (.cons I (.cons (.sl 39 k11) (.cons (.sl 135 k6) (.cons (.sl 110 k5) (.cons (.sl 3 (.one I)) (.cons (.sl 3 (.one I)) (.one I)))))))))))
def tbl : List (Nat × Ty) := [
  (3, ⟨false, (.one I), []⟩),
  (4, ⟨false, (.one .bool), []⟩),
  (22, ⟨false, (.one (.sl 3 (.one I))), []⟩),
  (23, ⟨false, (.one (.sl 127 k3)), []⟩),
  (25, ⟨true, k12, [(0, 22), (1, 3), (2, 4), (3, 3), (4, 3), (5, 3), (6, 22), (7, 23)]⟩),
  (127, ⟨true, k3, [(0, 4), (1, 3), (2, 3)]⟩)]
theorem tblOk : tbl.all (fun p => tyB Try.prog p.1 p.2) = true := by kernel_rfl
theorem follows : Try.prog.follows .mixedOrders = true := by kernel_rfl
-- spec_LinkNew
def sm13 : Sm := ⟨[], [(true, [((.sl 3 (.one I)), 2), (I, 0), (.bool, 0), (I, 0), (I, 0), (I, 0), ((.sl 3 (.one I)), 2), ((.sl 127 k3), 2)])]⟩
def an13 : An := ⟨fun _ => none,
  fun _ => none,
  fun _ => none⟩
def s13 (n : Nat) : SmF := ⟨sm13, fun x => N.spec_LinkNew⟩
def env13 (n : Nat) : List (FuncId × SmF) := []
theorem ev13 (n : Nat) (x : sm13.ins.D) : evFn (find tbl) (find (env13 n)) an13 n Try.f13 sm13 x = N.spec_LinkNew := by kernel_rfl
theorem ok13 (n : Nat) : FnOk Try.prog 13 (s13 n) := fn_native (an := an13) (n := n) Try.func13 rfl (by kernel_rfl) tblOk env_nil follows (ev13 n)
theorem body13 : HasBody Try.prog 13 := ⟨_, _, Try.func13, rfl, by kernel_rfl⟩

-- impl_LinkNew
def sm14 : Sm := ⟨[], [(true, [((.sl 3 (.one I)), 2), (I, 0), (.bool, 0), (I, 0), (I, 0), (I, 0), ((.sl 3 (.one I)), 2), ((.sl 127 k3), 2)])]⟩
def an14 : An := ⟨fun _ => none,
  fun _ => none,
  fun _ => none⟩
def s14 (n : Nat) : SmF := ⟨sm14, fun x => N.impl_LinkNew⟩
def env14 (n : Nat) : List (FuncId × SmF) := []
theorem ev14 (n : Nat) (x : sm14.ins.D) : evFn (find tbl) (find (env14 n)) an14 n Try.f14 sm14 x = N.impl_LinkNew := by kernel_rfl
theorem ok14 (n : Nat) : FnOk Try.prog 14 (s14 n) := fn_native (an := an14) (n := n) Try.func14 rfl (by kernel_rfl) tblOk env_nil follows (ev14 n)
theorem body14 : HasBody Try.prog 14 := ⟨_, _, Try.func14, rfl, by kernel_rfl⟩

-- laws_eqIntS
def sm56 : Sm := ⟨[.val false [(.sl 3 (.one I))], .val false [(.sl 3 (.one I))]], [(false, [(.bool, 0)])]⟩
def an56 : An := ⟨fun _ => none,
  fun b => match b with
    | 0 => some ([.slot 5 I], true)
    | _ => none,
  fun _ => none⟩
def s56 (n : Nat) : SmF := ⟨sm56, fun x => N.laws_eqIntS n x.1 x.2⟩
def env56 (n : Nat) : List (FuncId × SmF) := []
theorem ev56 (n : Nat) (x : sm56.ins.D) : evFn (find tbl) (find (env56 n)) an56 n Try.f56 sm56 x = N.laws_eqIntS n x.1 x.2 := by kernel_rfl
theorem ok56 (n : Nat) : FnOk Try.prog 56 (s56 n) := fn_native (an := an56) (n := n) Try.func56 rfl (by kernel_rfl) tblOk env_nil follows (ev56 n)
theorem body56 : HasBody Try.prog 56 := ⟨_, _, Try.func56, rfl, by kernel_rfl⟩

-- laws_eqWord
def sm111 : Sm := ⟨[.val true [.bool, I, I], .val true [.bool, I, I]], [(false, [(.bool, 0)])]⟩
def an111 : An := ⟨fun _ => none,
  fun _ => none,
  fun _ => none⟩
def s111 (n : Nat) : SmF := ⟨sm111, fun x => N.laws_eqWord x.1 x.2.1 x.2.2.1 x.2.2.2.1 x.2.2.2.2.1 x.2.2.2.2.2⟩
def env111 (n : Nat) : List (FuncId × SmF) := []
theorem ev111 (n : Nat) (x : sm111.ins.D) : evFn (find tbl) (find (env111 n)) an111 n Try.f111 sm111 x = N.laws_eqWord x.1 x.2.1 x.2.2.1 x.2.2.2.1 x.2.2.2.2.1 x.2.2.2.2.2 := by kernel_rfl
theorem ok111 (n : Nat) : FnOk Try.prog 111 (s111 n) := fn_native (an := an111) (n := n) Try.func111 rfl (by kernel_rfl) tblOk env_nil follows (ev111 n)
theorem body111 : HasBody Try.prog 111 := ⟨_, _, Try.func111, rfl, by kernel_rfl⟩

-- laws_eqWordS
def sm57 : Sm := ⟨[.val false [(.sl 127 k3)], .val false [(.sl 127 k3)]], [(false, [(.bool, 0)])]⟩
def an57 : An := ⟨fun _ => none,
  fun b => match b with
    | 0 => some ([.slot 5 I], true)
    | _ => none,
  fun _ => none⟩
def s57 (n : Nat) : SmF := ⟨sm57, fun x => N.laws_eqWordS n x.1 x.2⟩
def env57 (n : Nat) : List (FuncId × SmF) := [(111, s111 n)]
theorem ev57 (n : Nat) (x : sm57.ins.D) : evFn (find tbl) (find (env57 n)) an57 n Try.f57 sm57 x = N.laws_eqWordS n x.1 x.2 := by kernel_rfl
theorem ok57 (n : Nat) : FnOk Try.prog 57 (s57 n) := fn_native (an := an57) (n := n) Try.func57 rfl (by kernel_rfl) tblOk (env_cons (ok111 n) body111 env_nil) follows (ev57 n)
theorem body57 : HasBody Try.prog 57 := ⟨_, _, Try.func57, rfl, by kernel_rfl⟩

-- laws_eqLink
def sm15 : Sm := ⟨[.val true [(.sl 3 (.one I)), I, .bool, I, I, I, (.sl 3 (.one I)), (.sl 127 k3)], .val true [(.sl 3 (.one I)), I, .bool, I, I, I, (.sl 3 (.one I)), (.sl 127 k3)]], [(false, [(.bool, 0)])]⟩
def an15 : An := ⟨fun _ => none,
  fun _ => none,
  fun _ => none⟩
def s15 (n : Nat) : SmF := ⟨sm15, fun x => N.laws_eqLink n x.1 x.2.1 x.2.2.1 x.2.2.2.1 x.2.2.2.2.1 x.2.2.2.2.2.1 x.2.2.2.2.2.2.1 x.2.2.2.2.2.2.2.1 x.2.2.2.2.2.2.2.2.1 x.2.2.2.2.2.2.2.2.2.1 x.2.2.2.2.2.2.2.2.2.2.1 x.2.2.2.2.2.2.2.2.2.2.2.1 x.2.2.2.2.2.2.2.2.2.2.2.2.1 x.2.2.2.2.2.2.2.2.2.2.2.2.2.1 x.2.2.2.2.2.2.2.2.2.2.2.2.2.2.1 x.2.2.2.2.2.2.2.2.2.2.2.2.2.2.2⟩
def env15 (n : Nat) : List (FuncId × SmF) := [(56, s56 n), (57, s57 n)]
theorem ev15 (n : Nat) (x : sm15.ins.D) : evFn (find tbl) (find (env15 n)) an15 n Try.f15 sm15 x = N.laws_eqLink n x.1 x.2.1 x.2.2.1 x.2.2.2.1 x.2.2.2.2.1 x.2.2.2.2.2.1 x.2.2.2.2.2.2.1 x.2.2.2.2.2.2.2.1 x.2.2.2.2.2.2.2.2.1 x.2.2.2.2.2.2.2.2.2.1 x.2.2.2.2.2.2.2.2.2.2.1 x.2.2.2.2.2.2.2.2.2.2.2.1 x.2.2.2.2.2.2.2.2.2.2.2.2.1 x.2.2.2.2.2.2.2.2.2.2.2.2.2.1 x.2.2.2.2.2.2.2.2.2.2.2.2.2.2.1 x.2.2.2.2.2.2.2.2.2.2.2.2.2.2.2 := by kernel_rfl
theorem ok15 (n : Nat) : FnOk Try.prog 15 (s15 n) := fn_native (an := an15) (n := n) Try.func15 rfl (by kernel_rfl) tblOk (env_cons (ok56 n) body56 (env_cons (ok57 n) body57 env_nil)) follows (ev15 n)
theorem body15 : HasBody Try.prog 15 := ⟨_, _, Try.func15, rfl, by kernel_rfl⟩

-- laws_markIntS
def sm58 : Sm := ⟨[.row false [((.sl 3 (.one I)), 2)], .val false [I]], [(false, [(I, 0)])]⟩
def an58 : An := ⟨fun _ => none,
  fun b => match b with
    | 0 => some ([.slot 1 I, .slot 5 I, .own 0 3 (.one I) 2 true], false)
    | _ => none,
  fun _ => none⟩
def s58 (n : Nat) : SmF := ⟨sm58, fun x => N.laws_markIntS n x.1 x.2⟩
def env58 (n : Nat) : List (FuncId × SmF) := []
theorem ev58 (n : Nat) (x : sm58.ins.D) : evFn (find tbl) (find (env58 n)) an58 n Try.f58 sm58 x = N.laws_markIntS n x.1 x.2 := by kernel_rfl
theorem ok58 (n : Nat) : FnOk Try.prog 58 (s58 n) := fn_native (an := an58) (n := n) Try.func58 rfl (by kernel_rfl) tblOk env_nil follows (ev58 n)
theorem body58 : HasBody Try.prog 58 := ⟨_, _, Try.func58, rfl, by kernel_rfl⟩

-- laws_markWordS
def sm59 : Sm := ⟨[.row false [((.sl 127 k3), 2)], .val false [I]], [(false, [(I, 0)])]⟩
def an59 : An := ⟨fun _ => none,
  fun b => match b with
    | 0 => some ([.slot 1 I, .slot 5 I, .own 0 127 k3 2 true], false)
    | _ => none,
  fun _ => none⟩
def s59 (n : Nat) : SmF := ⟨sm59, fun x => N.laws_markWordS n x.1 x.2⟩
def env59 (n : Nat) : List (FuncId × SmF) := []
theorem ev59 (n : Nat) (x : sm59.ins.D) : evFn (find tbl) (find (env59 n)) an59 n Try.f59 sm59 x = N.laws_markWordS n x.1 x.2 := by kernel_rfl
theorem ok59 (n : Nat) : FnOk Try.prog 59 (s59 n) := fn_native (an := an59) (n := n) Try.func59 rfl (by kernel_rfl) tblOk env_nil follows (ev59 n)
theorem body59 : HasBody Try.prog 59 := ⟨_, _, Try.func59, rfl, by kernel_rfl⟩

-- laws_markLink
def sm16 : Sm := ⟨[.row true [((.sl 3 (.one I)), 2), (I, 0), (.bool, 0), (I, 0), (I, 0), (I, 0), ((.sl 3 (.one I)), 2), ((.sl 127 k3), 2)], .val false [I]], [(false, [(I, 0)])]⟩
def an16 : An := ⟨fun _ => none,
  fun _ => none,
  fun _ => none⟩
def s16 (n : Nat) : SmF := ⟨sm16, fun x => N.laws_markLink n x.1 x.2.1 x.2.2.1 x.2.2.2.1 x.2.2.2.2.1 x.2.2.2.2.2.1 x.2.2.2.2.2.2.1 x.2.2.2.2.2.2.2.1 x.2.2.2.2.2.2.2.2⟩
def env16 (n : Nat) : List (FuncId × SmF) := [(58, s58 n), (59, s59 n)]
theorem ev16 (n : Nat) (x : sm16.ins.D) : evFn (find tbl) (find (env16 n)) an16 n Try.f16 sm16 x = N.laws_markLink n x.1 x.2.1 x.2.2.1 x.2.2.2.1 x.2.2.2.2.1 x.2.2.2.2.2.1 x.2.2.2.2.2.2.1 x.2.2.2.2.2.2.2.1 x.2.2.2.2.2.2.2.2 := by kernel_rfl
theorem ok16 (n : Nat) : FnOk Try.prog 16 (s16 n) := fn_native (an := an16) (n := n) Try.func16 rfl (by kernel_rfl) tblOk (env_cons (ok58 n) body58 (env_cons (ok59 n) body59 env_nil)) follows (ev16 n)
theorem body16 : HasBody Try.prog 16 := ⟨_, _, Try.func16, rfl, by kernel_rfl⟩

-- laws_heldIntS
def sm60 : Sm := ⟨[.val false [(.sl 3 (.one I))], .val false [I]], [(false, [(I, 0)])]⟩
def an60 : An := ⟨fun _ => none,
  fun b => match b with
    | 0 => some ([.slot 1 I, .slot 5 I], true)
    | _ => none,
  fun _ => none⟩
def s60 (n : Nat) : SmF := ⟨sm60, fun x => N.laws_heldIntS n x.1 x.2⟩
def env60 (n : Nat) : List (FuncId × SmF) := []
theorem ev60 (n : Nat) (x : sm60.ins.D) : evFn (find tbl) (find (env60 n)) an60 n Try.f60 sm60 x = N.laws_heldIntS n x.1 x.2 := by kernel_rfl
theorem ok60 (n : Nat) : FnOk Try.prog 60 (s60 n) := fn_native (an := an60) (n := n) Try.func60 rfl (by kernel_rfl) tblOk env_nil follows (ev60 n)
theorem body60 : HasBody Try.prog 60 := ⟨_, _, Try.func60, rfl, by kernel_rfl⟩

-- laws_heldWordS
def sm61 : Sm := ⟨[.val false [(.sl 127 k3)], .val false [I]], [(false, [(I, 0)])]⟩
def an61 : An := ⟨fun _ => none,
  fun b => match b with
    | 0 => some ([.slot 1 I, .slot 5 I], true)
    | _ => none,
  fun _ => none⟩
def s61 (n : Nat) : SmF := ⟨sm61, fun x => N.laws_heldWordS n x.1 x.2⟩
def env61 (n : Nat) : List (FuncId × SmF) := []
theorem ev61 (n : Nat) (x : sm61.ins.D) : evFn (find tbl) (find (env61 n)) an61 n Try.f61 sm61 x = N.laws_heldWordS n x.1 x.2 := by kernel_rfl
theorem ok61 (n : Nat) : FnOk Try.prog 61 (s61 n) := fn_native (an := an61) (n := n) Try.func61 rfl (by kernel_rfl) tblOk env_nil follows (ev61 n)
theorem body61 : HasBody Try.prog 61 := ⟨_, _, Try.func61, rfl, by kernel_rfl⟩

-- laws_heldLink
def sm17 : Sm := ⟨[.val true [(.sl 3 (.one I)), I, .bool, I, I, I, (.sl 3 (.one I)), (.sl 127 k3)], .val false [I]], [(false, [(I, 0)])]⟩
def an17 : An := ⟨fun _ => none,
  fun _ => none,
  fun _ => none⟩
def s17 (n : Nat) : SmF := ⟨sm17, fun x => N.laws_heldLink n x.1 x.2.1 x.2.2.1 x.2.2.2.1 x.2.2.2.2.1 x.2.2.2.2.2.1 x.2.2.2.2.2.2.1 x.2.2.2.2.2.2.2.1 x.2.2.2.2.2.2.2.2⟩
def env17 (n : Nat) : List (FuncId × SmF) := [(60, s60 n), (61, s61 n)]
theorem ev17 (n : Nat) (x : sm17.ins.D) : evFn (find tbl) (find (env17 n)) an17 n Try.f17 sm17 x = N.laws_heldLink n x.1 x.2.1 x.2.2.1 x.2.2.2.1 x.2.2.2.2.1 x.2.2.2.2.2.1 x.2.2.2.2.2.2.1 x.2.2.2.2.2.2.2.1 x.2.2.2.2.2.2.2.2 := by kernel_rfl
theorem ok17 (n : Nat) : FnOk Try.prog 17 (s17 n) := fn_native (an := an17) (n := n) Try.func17 rfl (by kernel_rfl) tblOk (env_cons (ok60 n) body60 (env_cons (ok61 n) body61 env_nil)) follows (ev17 n)
theorem body17 : HasBody Try.prog 17 := ⟨_, _, Try.func17, rfl, by kernel_rfl⟩

-- laws_FnExactLinkNew
def sm3 : Sm := ⟨[], [(false, [(.bool, 0)])]⟩
def an3 : An := ⟨fun _ => none,
  fun _ => none,
  fun _ => none⟩
def s3 (n : Nat) : SmF := ⟨sm3, fun x => N.laws_FnExactLinkNew n⟩
def env3 (n : Nat) : List (FuncId × SmF) := [(13, s13 n), (14, s14 n), (15, s15 n), (16, s16 n), (17, s17 n)]
theorem ev3 (n : Nat) (x : sm3.ins.D) : evFn (find tbl) (find (env3 n)) an3 n Try.f3 sm3 x = N.laws_FnExactLinkNew n := by kernel_rfl
theorem ok3 (n : Nat) : FnOk Try.prog 3 (s3 n) := fn_native (an := an3) (n := n) Try.func3 rfl (by kernel_rfl) tblOk (env_cons (ok13 n) body13 (env_cons (ok14 n) body14 (env_cons (ok15 n) body15 (env_cons (ok16 n) body16 (env_cons (ok17 n) body17 env_nil))))) follows (ev3 n)
theorem body3 : HasBody Try.prog 3 := ⟨_, _, Try.func3, rfl, by kernel_rfl⟩
end Go.Proofs.Ytcilnijdhaidjaa.Ev
