/- The law FnExactCalm, as a row: its function's summary, its plain statement. Conditions: those of the row. -/
import Derived.Test.YtjbfgbgibmebfaaRows
import Derived.Test.YtjbfgbgibmebfaaFnExactCalmSum0
import Derived.Test.YtjbfgbgibmebfaaFnExactCalmPure
import Derived.WalkKit
import Derived.ProofKit
namespace Go.Proofs.Ytjbfgbgibmebfaa.fnExactCalm
open Go Go.Ev Go.Proofs
set_option linter.unusedVariables false
set_option maxRecDepth 100000
theorem own : ownKnob Try.prog.godebug = none := by kernel_rfl
theorem lifted (os : Os) (started : os.Started) (H : Type) (enc : TypeId × Value → H) :
    ReturnsInHanded {} Try.checked os 3 .any (Rows.fnExactCalmSpec.pre6 enc Try.prog Try.f3 Rows.fnExactCalmRow.domain false) (Rows.fnExactCalmSpec.post enc Try.prog Try.f3 false true false false) :=
  row_ok (C := Try.checked) (F := fun n => (Ev.s3 n).f) own started (by kernel_rfl) Try.func3
    (ChangeSpec.witness6 (enc := enc) (C := Try.checked) false ⟨#[], #[.agg #[.slice none 0 0, .int .i64 0, .bool false, .int .i64 0, .int .i64 0, .int .i64 0, .slice none 0 0, .slice none 0 0]], []⟩ 8 (by kernel_rfl) (by kernel_rfl) (by kernel_rfl) (by kernel_rfl))
    (fun n => Ev.ok3 n) (by kernel_rfl) rfl rfl Try.underlying4 rfl (by kernel_rfl) (by kernel_rfl)
    (fun ds hd => by match ds, hd with | [_], _ => rfl) (fun x hx => by obtain ⟨n, h⟩ := N.laws_FnExactCalm_pure x.1 x.2.1 x.2.2.1 x.2.2.2.1 x.2.2.2.2.1 x.2.2.2.2.2.1 x.2.2.2.2.2.2.1 x.2.2.2.2.2.2.2 hx; exact ⟨n, _, h, rfl⟩)
theorem over : Rows.fnExactCalmRow.holds Try.pinned (OpenSpec.ofChange Rows.fnExactCalmSpec) :=
  OpenClaim.holds_of_wide 3 Try.f3 rfl rfl rfl rfl rfl rfl rfl ⟨rfl, rfl, rfl, rfl, rfl⟩ rfl rfl rfl rfl rfl (by kernel_rfl) Try.func3 (by kernel_rfl)
    (of_decide_eq_true (by kernel_rfl)) (by unfold Func.isWrapper; first | (rw [if_pos (by decide +kernel)]; kernel_rfl) | (rw [if_neg (by decide +kernel)]; exact ⟨rfl, rfl⟩))
    (fun os started H enc _ => lifted os started H enc)
end Go.Proofs.Ytjbfgbgibmebfaa.fnExactCalm
namespace Go.Proofs.Ytjbfgbgibmebfaa
theorem fnExactCalm_holds : Rows.FnExactCalmSaid := fnExactCalm.over
#print axioms fnExactCalm_holds
end Go.Proofs.Ytjbfgbgibmebfaa
