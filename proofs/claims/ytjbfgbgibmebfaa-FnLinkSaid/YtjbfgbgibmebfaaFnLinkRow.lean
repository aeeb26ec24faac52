/- The law FnLink, as a row: its function's summary, its plain statement. Conditions: those of the row. -/
import Derived.Test.YtjbfgbgibmebfaaRows
import Derived.Test.YtjbfgbgibmebfaaFnLinkSum0
import Derived.Test.YtjbfgbgibmebfaaFnLinkPure
import Derived.WalkKit
import Derived.ProofKit
namespace Go.Proofs.Ytjbfgbgibmebfaa.fnLink
open Go Go.Ev Go.Proofs
set_option linter.unusedVariables false
set_option maxRecDepth 100000
theorem own : ownKnob Try.prog.godebug = none := by kernel_rfl
theorem lifted (os : Os) (started : os.Started) (H : Type) (enc : TypeId × Value → H) :
    ReturnsInHanded {} Try.checked os 9 .any (Rows.fnLinkSpec.pre6 enc Try.prog Try.f9 Rows.fnLinkRow.domain false) (Rows.fnLinkSpec.post enc Try.prog Try.f9 false true false false) :=
  row_ok (C := Try.checked) (F := fun n => (Ev.s9 n).f) own started (by kernel_rfl) Try.func9
    (ChangeSpec.witness6 (enc := enc) (C := Try.checked) false ⟨#[], #[.slice none 0 0], []⟩ 8 (by kernel_rfl) (by kernel_rfl) (by kernel_rfl) (by kernel_rfl))
    (fun n => Ev.ok9 n) (by kernel_rfl) rfl rfl Try.underlying4 rfl (by kernel_rfl) (by kernel_rfl)
    (fun ds hd => by match ds, hd with | [_], _ => rfl) (fun x hx => by obtain ⟨n, h⟩ := N.laws_FnLink_pure x hx; exact ⟨n, _, h, rfl⟩)
theorem over : Rows.fnLinkRow.holds Try.pinned (OpenSpec.ofChange Rows.fnLinkSpec) :=
  OpenClaim.holds_of_wide 9 Try.f9 rfl rfl rfl rfl rfl rfl rfl ⟨rfl, rfl, rfl, rfl, rfl⟩ rfl rfl rfl rfl rfl (by kernel_rfl) Try.func9 (by kernel_rfl)
    (of_decide_eq_true (by kernel_rfl)) (by unfold Func.isWrapper; first | (rw [if_pos (by decide +kernel)]; kernel_rfl) | (rw [if_neg (by decide +kernel)]; exact ⟨rfl, rfl⟩))
    (fun os started H enc _ => lifted os started H enc)
end Go.Proofs.Ytjbfgbgibmebfaa.fnLink
namespace Go.Proofs.Ytjbfgbgibmebfaa
theorem fnLink_holds : Rows.FnLinkSaid := fnLink.over
#print axioms fnLink_holds
end Go.Proofs.Ytjbfgbgibmebfaa
