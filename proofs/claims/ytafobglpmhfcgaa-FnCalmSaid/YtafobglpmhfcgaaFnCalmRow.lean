/- The law FnCalm, as a row: its function's summary, its plain statement. Conditions: those of the row. -/
import Derived.Test.YtafobglpmhfcgaaRows
import Derived.Test.YtafobglpmhfcgaaFnCalmSum0
import Derived.Test.YtafobglpmhfcgaaFnCalmPure
import Derived.WalkKit
import Derived.ProofKit
namespace Go.Proofs.Ytafobglpmhfcgaa.fnCalm
open Go Go.Ev Go.Proofs
set_option linter.unusedVariables false
set_option maxRecDepth 100000
theorem own : ownKnob Try.prog.godebug = none := by kernel_rfl
theorem lifted (os : Os) (started : os.Started) (H : Type) (enc : TypeId × Value → H) :
    ReturnsInHanded {} Try.checked os 3 .any (Rows.fnCalmSpec.pre6 enc Try.prog Try.f3 Rows.fnCalmRow.domain false) (Rows.fnCalmSpec.post enc Try.prog Try.f3 false true false false) :=
  row_ok (C := Try.checked) (F := fun n => (Ev.s3 n).f) own started (by kernel_rfl) Try.func3
    (ChangeSpec.witness6 (enc := enc) (C := Try.checked) false ⟨#[], #[.slice none 0 0], []⟩ 8 (by kernel_rfl) (by kernel_rfl) (by kernel_rfl) (by kernel_rfl))
    (fun n => Ev.ok3 n) (by kernel_rfl) rfl rfl Try.underlying4 rfl (by kernel_rfl) (by kernel_rfl)
    (fun ds hd => by match ds, hd with | [_], _ => rfl) (fun x hx => by obtain ⟨n, h⟩ := N.laws_FnCalm_pure x hx; exact ⟨n, _, h, rfl⟩)
theorem over : Rows.fnCalmRow.holds Try.pinned (OpenSpec.ofChange Rows.fnCalmSpec) :=
  OpenClaim.holds_of_wide 3 Try.f3 rfl rfl rfl rfl rfl rfl rfl ⟨rfl, rfl, rfl, rfl, rfl⟩ rfl rfl rfl rfl rfl (by kernel_rfl) Try.func3 (by kernel_rfl)
    (of_decide_eq_true (by kernel_rfl)) (by unfold Func.isWrapper; first | (rw [if_pos (by decide +kernel)]; kernel_rfl) | (rw [if_neg (by decide +kernel)]; exact ⟨rfl, rfl⟩))
    (fun os started H enc _ => lifted os started H enc)
end Go.Proofs.Ytafobglpmhfcgaa.fnCalm
namespace Go.Proofs.Ytafobglpmhfcgaa
theorem fnCalm_holds : Rows.FnCalmSaid := fnCalm.over
#print axioms fnCalm_holds
end Go.Proofs.Ytafobglpmhfcgaa
