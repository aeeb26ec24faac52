/- The law FnSwept, as a row: its function's summary, its plain statement. Conditions: those of the row. -/
import Derived.Test.YtjbfgbgibmebfaaRows
import Derived.Test.YtjbfgbgibmebfaaFnSweptSum0
import Derived.Test.YtjbfgbgibmebfaaFnSweptPure
import Derived.WalkKit
import Derived.ProofKit
namespace Go.Proofs.Ytjbfgbgibmebfaa.fnSwept
open Go Go.Ev Go.Proofs
set_option linter.unusedVariables false
set_option maxRecDepth 100000
theorem own : ownKnob Try.prog.godebug = none := by kernel_rfl
theorem lifted (os : Os) (started : os.Started) (H : Type) (enc : TypeId × Value → H) :
    ReturnsInHanded {} Try.checked os 10 .any (Rows.fnSweptSpec.pre6 enc Try.prog Try.f10 Rows.fnSweptRow.domain false) (Rows.fnSweptSpec.post enc Try.prog Try.f10 false true false false) :=
  row_ok (C := Try.checked) (F := fun n => (Ev.s10 n).f) own started (by kernel_rfl) Try.func10
    (ChangeSpec.witness6 (enc := enc) (C := Try.checked) false ⟨#[], #[.slice none 0 0], []⟩ 8 (by kernel_rfl) (by kernel_rfl) (by kernel_rfl) (by kernel_rfl))
    (fun n => Ev.ok10 n) (by kernel_rfl) rfl rfl Try.underlying4 rfl (by kernel_rfl) (by kernel_rfl)
    (fun ds hd => by match ds, hd with | [_], _ => rfl) (fun x hx => by obtain ⟨n, h⟩ := N.laws_FnSwept_pure x hx; exact ⟨n, _, h, rfl⟩)
theorem over : Rows.fnSweptRow.holds Try.pinned (OpenSpec.ofChange Rows.fnSweptSpec) :=
  OpenClaim.holds_of_wide 10 Try.f10 rfl rfl rfl rfl rfl rfl rfl ⟨rfl, rfl, rfl, rfl, rfl⟩ rfl rfl rfl rfl rfl (by kernel_rfl) Try.func10 (by kernel_rfl)
    (of_decide_eq_true (by kernel_rfl)) (by unfold Func.isWrapper; first | (rw [if_pos (by decide +kernel)]; kernel_rfl) | (rw [if_neg (by decide +kernel)]; exact ⟨rfl, rfl⟩))
    (fun os started H enc _ => lifted os started H enc)
end Go.Proofs.Ytjbfgbgibmebfaa.fnSwept
namespace Go.Proofs.Ytjbfgbgibmebfaa
theorem fnSwept_holds : Rows.FnSweptSaid := fnSwept.over
#print axioms fnSwept_holds
end Go.Proofs.Ytjbfgbgibmebfaa
