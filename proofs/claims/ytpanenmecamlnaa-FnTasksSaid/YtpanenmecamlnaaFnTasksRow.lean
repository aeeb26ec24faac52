/- The law FnTasks, as a row: its function's summary, its plain statement. Conditions: those of the row. -/
import Derived.Test.YtpanenmecamlnaaRows
import Derived.Test.YtpanenmecamlnaaFnTasksSum0
import Derived.Test.YtpanenmecamlnaaFnTasksPure
import Derived.WalkKit
import Derived.ProofKit
namespace Go.Proofs.Ytpanenmecamlnaa.fnTasks
open Go Go.Ev Go.Proofs
set_option linter.unusedVariables false
set_option maxRecDepth 100000
theorem own : ownKnob Try.prog.godebug = none := by kernel_rfl
theorem lifted (os : Os) (started : os.Started) (H : Type) (enc : TypeId × Value → H) :
    ReturnsInHanded {} Try.checked os 3 .any (Rows.fnTasksSpec.pre6 enc Try.prog Try.f3 Rows.fnTasksRow.domain false) (Rows.fnTasksSpec.post enc Try.prog Try.f3 false true false false) :=
  row_ok (C := Try.checked) (F := fun n => (Ev.s3 n).f) own started (by kernel_rfl) Try.func3
    (ChangeSpec.witness6 (enc := enc) (C := Try.checked) false ⟨#[], #[.slice none 0 0], []⟩ 8 (by kernel_rfl) (by kernel_rfl) (by kernel_rfl) (by kernel_rfl))
    (fun n => Ev.ok3 n) (by kernel_rfl) rfl rfl Try.underlying4 rfl (by kernel_rfl) (by kernel_rfl)
    (fun ds hd => by match ds, hd with | [_], _ => rfl) (fun x hx => by obtain ⟨n, h⟩ := N.laws_FnTasks_pure x hx; exact ⟨n, _, h, rfl⟩)
theorem over : Rows.fnTasksRow.holds Try.pinned (OpenSpec.ofChange Rows.fnTasksSpec) :=
  OpenClaim.holds_of_wide 3 Try.f3 rfl rfl rfl rfl rfl rfl rfl ⟨rfl, rfl, rfl, rfl, rfl⟩ rfl rfl rfl rfl rfl (by kernel_rfl) Try.func3 (by kernel_rfl)
    (of_decide_eq_true (by kernel_rfl)) (by unfold Func.isWrapper; first | (rw [if_pos (by decide +kernel)]; kernel_rfl) | (rw [if_neg (by decide +kernel)]; exact ⟨rfl, rfl⟩))
    (fun os started H enc _ => lifted os started H enc)
end Go.Proofs.Ytpanenmecamlnaa.fnTasks
namespace Go.Proofs.Ytpanenmecamlnaa
theorem fnTasks_holds : Rows.FnTasksSaid := fnTasks.over
#print axioms fnTasks_holds
end Go.Proofs.Ytpanenmecamlnaa
