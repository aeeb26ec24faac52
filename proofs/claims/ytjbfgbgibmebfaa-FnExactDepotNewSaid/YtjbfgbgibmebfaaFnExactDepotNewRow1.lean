/- Closed facts of the row of FnExactDepotNew. Conditions: none. -/
import Derived.Test.YtjbfgbgibmebfaaFnExactDepotNewRow0
namespace Go.Proofs.Ytjbfgbgibmebfaa.fnExactDepotNew
open Go Go.Ev Go.Proofs
set_option linter.unusedVariables false
set_option maxRecDepth 100000
theorem closed : joinedFacts Try.prog 4 Try.f4 Rows.fnExactDepotNewSpec Rows.fnExactDepotNewRow = true := by kernel_rfl
end Go.Proofs.Ytjbfgbgibmebfaa.fnExactDepotNew
