/- The law FnExactDepotNew, as a row: its function's summary, its plain statement. Conditions: those of the row. -/
import Derived.Test.YtjbfgbgibmebfaaRows
import Derived.Test.YtjbfgbgibmebfaaFnExactDepotNewSum1
import Derived.Test.YtjbfgbgibmebfaaFnExactDepotNewPure
import Derived.WalkKit
import Derived.ProofKit
namespace Go.Proofs.Ytjbfgbgibmebfaa.fnExactDepotNew
open Go Go.Ev Go.Proofs
set_option linter.unusedVariables false
set_option maxRecDepth 100000
theorem own : ownKnob Try.prog.godebug = none := by kernel_rfl
theorem lifted (os : Os) (started : os.Started) (H : Type) (enc : TypeId × Value → H) :
    ReturnsInHanded {} Try.checked os 4 .any (Rows.fnExactDepotNewSpec.pre6 enc Try.prog Try.f4 Rows.fnExactDepotNewRow.domain false) (Rows.fnExactDepotNewSpec.post enc Try.prog Try.f4 false true false false) :=
  row_ok (C := Try.checked) (F := fun n => (Ev.s4 n).f) own started (by kernel_rfl) Try.func4
    (ChangeSpec.witness6 (enc := enc) (C := Try.checked) false ⟨#[], #[.agg #[.int .i64 0, .int .i64 0, .slice none 0 0], .agg #[.slice none 0 0]], []⟩ 8 (by kernel_rfl) (by kernel_rfl) (by kernel_rfl) (by kernel_rfl))
    (fun n => Ev.ok4 n) (by kernel_rfl) rfl rfl Try.underlying4 rfl (by kernel_rfl) (by kernel_rfl)
    (fun ds hd => by match ds, hd with | [_, _], _ => rfl) (fun x hx => by obtain ⟨n, h⟩ := N.laws_FnExactDepotNew_pure x.1 x.2.1 x.2.2.1 x.2.2.2 hx; exact ⟨n, _, h, rfl⟩)
end Go.Proofs.Ytjbfgbgibmebfaa.fnExactDepotNew
