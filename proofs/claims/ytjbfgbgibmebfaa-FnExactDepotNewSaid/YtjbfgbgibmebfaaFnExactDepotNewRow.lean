/- The law FnExactDepotNew, as a row. Conditions: those of the row. -/
import Derived.Test.YtjbfgbgibmebfaaFnExactDepotNewRow1
namespace Go.Proofs.Ytjbfgbgibmebfaa.fnExactDepotNew
open Go Go.Ev Go.Proofs
set_option linter.unusedVariables false
set_option maxRecDepth 100000
theorem over : Rows.fnExactDepotNewRow.holds Try.pinned (OpenSpec.ofChange Rows.fnExactDepotNewSpec) :=
  OpenClaim.holds_of_wide 4 Try.f4 rfl rfl rfl rfl rfl rfl rfl ⟨rfl, rfl, rfl, rfl, rfl⟩ rfl rfl rfl rfl rfl (by kernel_rfl) Try.func4 closed
    (of_decide_eq_true (by kernel_rfl)) (by unfold Func.isWrapper; first | (rw [if_pos (by decide +kernel)]; kernel_rfl) | (rw [if_neg (by decide +kernel)]; exact ⟨rfl, rfl⟩))
    (fun os started H enc _ => lifted os started H enc)
end Go.Proofs.Ytjbfgbgibmebfaa.fnExactDepotNew
namespace Go.Proofs.Ytjbfgbgibmebfaa
theorem fnExactDepotNew_holds : Rows.FnExactDepotNewSaid := fnExactDepotNew.over
#print axioms fnExactDepotNew_holds
end Go.Proofs.Ytjbfgbgibmebfaa
