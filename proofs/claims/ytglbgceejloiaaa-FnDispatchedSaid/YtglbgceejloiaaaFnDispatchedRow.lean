/- The law FnDispatched, as a row: its function's summary, its plain statement. Conditions: those of the row. -/
import Derived.Test.YtglbgceejloiaaaRows
import Derived.Test.YtglbgceejloiaaaFnDispatchedSum1
import Derived.Test.YtglbgceejloiaaaFnDispatchedPure
import Derived.WalkKit
import Derived.ProofKit
namespace Go.Proofs.Ytglbgceejloiaaa.fnDispatched
open Go Go.Ev Go.Proofs
set_option linter.unusedVariables false
set_option maxRecDepth 100000
theorem own : ownKnob Try.prog.godebug = none := by kernel_rfl
theorem lifted (os : Os) (started : os.Started) (H : Type) (enc : TypeId × Value → H) :
  ReturnsInHanded {} Try.checked os 5 .any (Rows.fnDispatchedSpec.pre6 enc Try.prog Try.f5 Rows.fnDispatchedRow.domain false) (Rows.fnDispatchedSpec.post enc Try.prog Try.f5 false true false false) :=
 Ov (C := Try.checked) (F := fun n => (Ev.s5 n).f) own started (by kernel_rfl) Try.func5
  (ChangeSpec.witness6 (enc := enc) (C := Try.checked) false ⟨#[], #[.slice none 0 0], []⟩ 8 (by kernel_rfl) (by kernel_rfl) (by kernel_rfl) (by kernel_rfl))
  (fun n => Ev.jg n) (by kernel_rfl) rfl rfl Try.underlying4 rfl (by kernel_rfl) (by kernel_rfl)
  (fun ds hd => by match ds, hd with | [_], _ => rfl) (fun x hx => by obtain ⟨n, h⟩ := N.TB x hx; exact ⟨n, _, h, rfl⟩)
theorem aN : Rows.fnDispatchedRow.holds Try.pinned (OpenSpec.ofChange Rows.fnDispatchedSpec) :=
 OpenClaim.holds_of_wide 5 Try.f5 rfl rfl rfl rfl rfl rfl rfl ⟨rfl, rfl, rfl, rfl, rfl⟩ rfl rfl rfl rfl rfl (by kernel_rfl) Try.func5 (by kernel_rfl)
  (of_decide_eq_true (by kernel_rfl)) (by unfold Func.isWrapper; first | (rw [if_pos (by decide +kernel)]; kernel_rfl) | (rw [if_neg (by decide +kernel)]; exact ⟨rfl, rfl⟩))
  (fun os started H enc _ => lifted os started H enc)
end Go.Proofs.Ytglbgceejloiaaa.fnDispatched
namespace Go.Proofs.Ytglbgceejloiaaa
theorem fnDispatched_holds : Rows.FnDispatchedSaid := fnDispatched.aN
#print axioms fnDispatched_holds
end Go.Proofs.Ytglbgceejloiaaa
