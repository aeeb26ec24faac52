/- Closed facts of the row of FnWhole. Conditions: none. -/
import Derived.Test.YtimfhfkcgkplcaaGreatDoorFnWholeRow0
namespace Go.Proofs.YtimfhfkcgkplcaaGreatDoor.fnWhole
open Go Go.Ev Go.Proofs
set_option linter.unusedVariables false
set_option maxRecDepth 100000
theorem closed:joinedFacts Tryz.prog 3 Tryz.f3 Rows.fnWholeSpec Rows.fnWholeRow=true:=by kernel_rfl
end Go.Proofs.YtimfhfkcgkplcaaGreatDoor.fnWhole
