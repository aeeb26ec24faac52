/- The law FnExactDrive, as a row: its function's summary, its plain statement. Conditions: those of the row. -/
import Derived.Test.YtpanenmecamlnaaRows
import Derived.Test.YtpanenmecamlnaaFnExactDriveSum0
import Derived.Test.YtpanenmecamlnaaFnExactDrivePure
import Derived.WalkKit
import Derived.ProofKit
namespace Go.Proofs.Ytpanenmecamlnaa.fnExactDrive
open Go Go.Ev Go.Proofs
set_option linter.unusedVariables false
set_option maxRecDepth 100000
theorem own : ownKnob Try.prog.godebug = none := by kernel_rfl
theorem lifted (os : Os) (started : os.Started) (H : Type) (enc : TypeId × Value → H) :
    ReturnsInHanded {} Try.checked os 7 .any (Rows.fnExactDriveSpec.pre6 enc Try.prog Try.f7 Rows.fnExactDriveRow.domain false) (Rows.fnExactDriveSpec.post enc Try.prog Try.f7 false true false false) :=
  row_ok (C := Try.checked) (F := fun n => (Ev.s7 n).f) own started (by kernel_rfl) Try.func7
    (ChangeSpec.witness6 (enc := enc) (C := Try.checked) false ⟨#[], #[.agg #[.int .i64 0, .int .i64 0, .slice none 0 0], .slice none 0 0, .int .i64 0], []⟩ 8 (by kernel_rfl) (by kernel_rfl) (by kernel_rfl) (by kernel_rfl))
    (fun n => Ev.ok7 n) (by kernel_rfl) rfl rfl Try.underlying4 rfl (by kernel_rfl) (by kernel_rfl)
    (fun ds hd => by match ds, hd with | [_, _, _], _ => rfl) (fun x hx => by obtain ⟨n, h⟩ := N.laws_FnExactDrive_pure x.1 x.2.1 x.2.2.1 x.2.2.2.1 x.2.2.2.2 hx; exact ⟨n, _, h, rfl⟩)
theorem over : Rows.fnExactDriveRow.holds Try.pinned (OpenSpec.ofChange Rows.fnExactDriveSpec) :=
  OpenClaim.holds_of_wide 7 Try.f7 rfl rfl rfl rfl rfl rfl rfl ⟨rfl, rfl, rfl, rfl, rfl⟩ rfl rfl rfl rfl rfl (by kernel_rfl) Try.func7 (by kernel_rfl)
    (of_decide_eq_true (by kernel_rfl)) (by unfold Func.isWrapper; first | (rw [if_pos (by decide +kernel)]; kernel_rfl) | (rw [if_neg (by decide +kernel)]; exact ⟨rfl, rfl⟩))
    (fun os started H enc _ => lifted os started H enc)
end Go.Proofs.Ytpanenmecamlnaa.fnExactDrive
namespace Go.Proofs.Ytpanenmecamlnaa
theorem fnExactDrive_holds : Rows.FnExactDriveSaid := fnExactDrive.over
#print axioms fnExactDrive_holds
end Go.Proofs.Ytpanenmecamlnaa
