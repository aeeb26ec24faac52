/- Summaries of the functions. Conditions: none. -/
import Derived.Test.YtjbfgbgibmebfaaFnExactDepotNewSum0
namespace Go.Proofs.Ytjbfgbgibmebfaa.Ev
open Go Go.Ev Go.Proofs
set_option linter.unusedVariables false
set_option maxRecDepth 100000
-- laws_heldStackS
def sm224 : Sm := ⟨[.val false [(.sl 144 k3)], .val false [I]], [(false, [(I, 0)])]⟩
def an224 : An := ⟨fun _ => none,
  fun b => match b with
    | 0 => some ([.slot 1 I, .slot 5 I], true)
    | _ => none,
  fun _ => none⟩
def s224 (n : Nat) : SmF := ⟨sm224, fun x => N.laws_heldStackS n x.1 x.2⟩
def env224 (n : Nat) : List (FuncId × SmF) := []
theorem ev224 (n : Nat) (x : sm224.ins.D) : evFn (find tbl) (find (env224 n)) an224 n Try.f224 sm224 x = N.laws_heldStackS n x.1 x.2 := by kernel_rfl
theorem ok224 (n : Nat) : FnOk Try.prog TT 224 (s224 n) := fn_native (an := an224) (n := n) Try.func224 rfl (by kernel_rfl) tblOk env_nil follows (ev224 n)
theorem body224 : HasBody Try.prog 224 := ⟨_, _, Try.func224, rfl, by kernel_rfl⟩

-- laws_heldPodS
def sm188 : Sm := ⟨[.val false [(.sl 142 k9)], .val false [I]], [(false, [(I, 0)])]⟩
def an188 : An := ⟨fun _ => none,
  fun b => match b with
    | 0 => some ([.slot 1 I, .slot 5 I], true)
    | _ => none,
  fun _ => none⟩
def s188 (n : Nat) : SmF := ⟨sm188, fun x => N.laws_heldPodS n x.1 x.2⟩
def env188 (n : Nat) : List (FuncId × SmF) := [(224, s224 n)]
theorem ev188 (n : Nat) (x : sm188.ins.D) : evFn (find tbl) (find (env188 n)) an188 n Try.f188 sm188 x = N.laws_heldPodS n x.1 x.2 := by kernel_rfl
theorem ok188 (n : Nat) : FnOk Try.prog TT 188 (s188 n) := fn_native (an := an188) (n := n) Try.func188 rfl (by kernel_rfl) tblOk (env_cons (ok224 n) body224 env_nil) follows (ev188 n)
theorem body188 : HasBody Try.prog 188 := ⟨_, _, Try.func188, rfl, by kernel_rfl⟩

-- laws_heldStock
def sm117 : Sm := ⟨[.val true [(.sl 142 k9)], .val false [I]], [(false, [(I, 0)])]⟩
def an117 : An := ⟨fun _ => none,
  fun _ => none,
  fun _ => none⟩
def s117 (n : Nat) : SmF := ⟨sm117, fun x => N.laws_heldStock n x.1 x.2⟩
def env117 (n : Nat) : List (FuncId × SmF) := [(188, s188 n)]
theorem ev117 (n : Nat) (x : sm117.ins.D) : evFn (find tbl) (find (env117 n)) an117 n Try.f117 sm117 x = N.laws_heldStock n x.1 x.2 := by kernel_rfl
theorem ok117 (n : Nat) : FnOk Try.prog TT 117 (s117 n) := fn_native (an := an117) (n := n) Try.func117 rfl (by kernel_rfl) tblOk (env_cons (ok188 n) body188 env_nil) follows (ev117 n)
theorem body117 : HasBody Try.prog 117 := ⟨_, _, Try.func117, rfl, by kernel_rfl⟩

-- laws_heldItemS
def sm225 : Sm := ⟨[.val false [(.sl 236 k1)], .val false [I]], [(false, [(I, 0)])]⟩
def an225 : An := ⟨fun _ => none,
  fun b => match b with
    | 0 => some ([.slot 1 I, .slot 5 I], true)
    | _ => none,
  fun _ => none⟩
def s225 (n : Nat) : SmF := ⟨sm225, fun x => N.laws_heldItemS n x.1 x.2⟩
def env225 (n : Nat) : List (FuncId × SmF) := []
theorem ev225 (n : Nat) (x : sm225.ins.D) : evFn (find tbl) (find (env225 n)) an225 n Try.f225 sm225 x = N.laws_heldItemS n x.1 x.2 := by kernel_rfl
theorem ok225 (n : Nat) : FnOk Try.prog TT 225 (s225 n) := fn_native (an := an225) (n := n) Try.func225 rfl (by kernel_rfl) tblOk env_nil follows (ev225 n)
theorem body225 : HasBody Try.prog 225 := ⟨_, _, Try.func225, rfl, by kernel_rfl⟩

-- laws_heldPickS
def sm226 : Sm := ⟨[.val false [(.sl 97 k3)], .val false [I]], [(false, [(I, 0)])]⟩
def an226 : An := ⟨fun _ => none,
  fun b => match b with
    | 0 => some ([.slot 1 I, .slot 5 I], true)
    | _ => none,
  fun _ => none⟩
def s226 (n : Nat) : SmF := ⟨sm226, fun x => N.laws_heldPickS n x.1 x.2⟩
def env226 (n : Nat) : List (FuncId × SmF) := []
theorem ev226 (n : Nat) (x : sm226.ins.D) : evFn (find tbl) (find (env226 n)) an226 n Try.f226 sm226 x = N.laws_heldPickS n x.1 x.2 := by kernel_rfl
theorem ok226 (n : Nat) : FnOk Try.prog TT 226 (s226 n) := fn_native (an := an226) (n := n) Try.func226 rfl (by kernel_rfl) tblOk env_nil follows (ev226 n)
theorem body226 : HasBody Try.prog 226 := ⟨_, _, Try.func226, rfl, by kernel_rfl⟩

-- laws_heldOrderS
def sm189 : Sm := ⟨[.val false [(.sl 90 k12)], .val false [I]], [(false, [(I, 0)])]⟩
def an189 : An := ⟨fun _ => none,
  fun b => match b with
    | 0 => some ([.slot 1 I, .slot 5 I], true)
    | _ => none,
  fun _ => none⟩
def s189 (n : Nat) : SmF := ⟨sm189, fun x => N.laws_heldOrderS n x.1 x.2⟩
def env189 (n : Nat) : List (FuncId × SmF) := [(225, s225 n), (226, s226 n)]
theorem ev189 (n : Nat) (x : sm189.ins.D) : evFn (find tbl) (find (env189 n)) an189 n Try.f189 sm189 x = N.laws_heldOrderS n x.1 x.2 := by kernel_rfl
theorem ok189 (n : Nat) : FnOk Try.prog TT 189 (s189 n) := fn_native (an := an189) (n := n) Try.func189 rfl (by kernel_rfl) tblOk (env_cons (ok225 n) body225 (env_cons (ok226 n) body226 env_nil)) follows (ev189 n)
theorem body189 : HasBody Try.prog 189 := ⟨_, _, Try.func189, rfl, by kernel_rfl⟩

-- laws_heldBook
def sm118 : Sm := ⟨[.val true [I, (.sl 90 k12)], .val false [I]], [(false, [(I, 0)])]⟩
def an118 : An := ⟨fun _ => none,
  fun _ => none,
  fun _ => none⟩
def s118 (n : Nat) : SmF := ⟨sm118, fun x => N.laws_heldBook n x.1 x.2.1 x.2.2⟩
def env118 (n : Nat) : List (FuncId × SmF) := [(189, s189 n)]
theorem ev118 (n : Nat) (x : sm118.ins.D) : evFn (find tbl) (find (env118 n)) an118 n Try.f118 sm118 x = N.laws_heldBook n x.1 x.2.1 x.2.2 := by kernel_rfl
theorem ok118 (n : Nat) : FnOk Try.prog TT 118 (s118 n) := fn_native (an := an118) (n := n) Try.func118 rfl (by kernel_rfl) tblOk (env_cons (ok189 n) body189 env_nil) follows (ev118 n)
theorem body118 : HasBody Try.prog 118 := ⟨_, _, Try.func118, rfl, by kernel_rfl⟩

-- laws_heldRobotS
def sm39 : Sm := ⟨[.val false [(.sl 118 k7)], .val false [I]], [(false, [(I, 0)])]⟩
def an39 : An := ⟨fun _ => none,
  fun b => match b with
    | 0 => some ([.slot 1 I, .slot 5 I], true)
    | _ => none,
  fun _ => none⟩
def s39 (n : Nat) : SmF := ⟨sm39, fun x => N.laws_heldRobotS n x.1 x.2⟩
def env39 (n : Nat) : List (FuncId × SmF) := []
theorem ev39 (n : Nat) (x : sm39.ins.D) : evFn (find tbl) (find (env39 n)) an39 n Try.f39 sm39 x = N.laws_heldRobotS n x.1 x.2 := by kernel_rfl
theorem ok39 (n : Nat) : FnOk Try.prog TT 39 (s39 n) := fn_native (an := an39) (n := n) Try.func39 rfl (by kernel_rfl) tblOk env_nil follows (ev39 n)
theorem body39 : HasBody Try.prog 39 := ⟨_, _, Try.func39, rfl, by kernel_rfl⟩

-- laws_heldTaskS
def sm51 : Sm := ⟨[.val false [(.sl 95 k6)], .val false [I]], [(false, [(I, 0)])]⟩
def an51 : An := ⟨fun _ => none,
  fun b => match b with
    | 0 => some ([.slot 1 I, .slot 5 I], true)
    | _ => none,
  fun _ => none⟩
def s51 (n : Nat) : SmF := ⟨sm51, fun x => N.laws_heldTaskS n x.1 x.2⟩
def env51 (n : Nat) : List (FuncId × SmF) := []
theorem ev51 (n : Nat) (x : sm51.ins.D) : evFn (find tbl) (find (env51 n)) an51 n Try.f51 sm51 x = N.laws_heldTaskS n x.1 x.2 := by kernel_rfl
theorem ok51 (n : Nat) : FnOk Try.prog TT 51 (s51 n) := fn_native (an := an51) (n := n) Try.func51 rfl (by kernel_rfl) tblOk env_nil follows (ev51 n)
theorem body51 : HasBody Try.prog 51 := ⟨_, _, Try.func51, rfl, by kernel_rfl⟩

-- laws_heldDepot
def sm32 : Sm := ⟨[.val true [I, I, (.sl 3 (.one I)), (.sl 142 k9), I, (.sl 90 k12), (.sl 118 k7), (.sl 95 k6), (.sl 3 (.one I)), (.sl 3 (.one I)), I], .val false [I]], [(false, [(I, 0)])]⟩
def an32 : An := ⟨fun _ => none,
  fun _ => none,
  fun _ => none⟩
def s32 (n : Nat) : SmF := ⟨sm32, fun x => N.laws_heldDepot n x.1 x.2.1 x.2.2.1 x.2.2.2.1 x.2.2.2.2.1 x.2.2.2.2.2.1 x.2.2.2.2.2.2.1 x.2.2.2.2.2.2.2.1 x.2.2.2.2.2.2.2.2.1 x.2.2.2.2.2.2.2.2.2.1 x.2.2.2.2.2.2.2.2.2.2.1 x.2.2.2.2.2.2.2.2.2.2.2⟩
def env32 (n : Nat) : List (FuncId × SmF) := [(39, s39 n), (51, s51 n), (96, s96 n), (116, s116 n), (117, s117 n), (118, s118 n)]
theorem ev32 (n : Nat) (x : sm32.ins.D) : evFn (find tbl) (find (env32 n)) an32 n Try.f32 sm32 x = N.laws_heldDepot n x.1 x.2.1 x.2.2.1 x.2.2.2.1 x.2.2.2.2.1 x.2.2.2.2.2.1 x.2.2.2.2.2.2.1 x.2.2.2.2.2.2.2.1 x.2.2.2.2.2.2.2.2.1 x.2.2.2.2.2.2.2.2.2.1 x.2.2.2.2.2.2.2.2.2.2.1 x.2.2.2.2.2.2.2.2.2.2.2 := by kernel_rfl
theorem ok32 (n : Nat) : FnOk Try.prog TT 32 (s32 n) := fn_native (an := an32) (n := n) Try.func32 rfl (by kernel_rfl) tblOk (env_cons (ok39 n) body39 (env_cons (ok51 n) body51 (env_cons (ok96 n) body96 (env_cons (ok116 n) body116 (env_cons (ok117 n) body117 (env_cons (ok118 n) body118 env_nil)))))) follows (ev32 n)
theorem body32 : HasBody Try.prog 32 := ⟨_, _, Try.func32, rfl, by kernel_rfl⟩

-- laws_FnExactDepotNew
def sm4 : Sm := ⟨[.val true [I, I, (.sl 3 (.one I))], .val true [(.sl 206 k10)]], [(false, [(.bool, 0)])]⟩
def an4 : An := ⟨fun _ => none,
  fun _ => none,
  fun _ => none⟩
def s4 (n : Nat) : SmF := ⟨sm4, fun x => N.laws_FnExactDepotNew n x.1 x.2.1 x.2.2.1 x.2.2.2⟩
def env4 (n : Nat) : List (FuncId × SmF) := [(20, s20 n), (21, s21 n), (22, s22 n), (23, s23 n), (24, s24 n), (25, s25 n), (26, s26 n), (27, s27 n), (28, s28 n), (29, s29 n), (30, s30 n), (31, s31 n), (32, s32 n)]
theorem ev4 (n : Nat) (x : sm4.ins.D) : evFn (find tbl) (find (env4 n)) an4 n Try.f4 sm4 x = N.laws_FnExactDepotNew n x.1 x.2.1 x.2.2.1 x.2.2.2 := by kernel_rfl
theorem ok4 (n : Nat) : FnOk Try.prog TT 4 (s4 n) := fn_native (an := an4) (n := n) Try.func4 rfl (by kernel_rfl) tblOk (env_cons (ok20 n) body20 (env_cons (ok21 n) body21 (env_cons (ok22 n) body22 (env_cons (ok23 n) body23 (env_cons (ok24 n) body24 (env_cons (ok25 n) body25 (env_cons (ok26 n) body26 (env_cons (ok27 n) body27 (env_cons (ok28 n) body28 (env_cons (ok29 n) body29 (env_cons (ok30 n) body30 (env_cons (ok31 n) body31 (env_cons (ok32 n) body32 env_nil))))))))))))) follows (ev4 n)
theorem body4 : HasBody Try.prog 4 := ⟨_, _, Try.func4, rfl, by kernel_rfl⟩
end Go.Proofs.Ytjbfgbgibmebfaa.Ev
