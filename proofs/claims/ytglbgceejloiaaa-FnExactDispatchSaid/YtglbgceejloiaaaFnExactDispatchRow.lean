/- The law FnExactDispatch, as a row: its function's summary, its plain statement. Conditions: those of the row. -/
import Derived.Test.YtglbgceejloiaaaRows
import Derived.Test.YtglbgceejloiaaaFnExactDispatchSum1
import Derived.Test.YtglbgceejloiaaaFnExactDispatchPure
import Derived.WalkKit
import Derived.ProofKit
namespace Go.Proofs.Ytglbgceejloiaaa.fnExactDispatch
open Go Go.Ev Go.Proofs
set_option linter.unusedVariables false
set_option maxRecDepth 100000
theorem own : ownKnob Try.prog.godebug = none := by kernel_rfl
theorem lifted (os : Os) (started : os.Started) (H : Type) (enc : TypeId × Value → H) :
    ReturnsInHanded {} Try.checked os 6 .any (Rows.fnExactDispatchSpec.pre6 enc Try.prog Try.f6 Rows.fnExactDispatchRow.domain false) (Rows.fnExactDispatchSpec.post enc Try.prog Try.f6 false true false false) :=
  row_ok (C := Try.checked) (F := fun n => (Ev.s6 n).f) own started (by kernel_rfl) Try.func6
    (ChangeSpec.witness6 (enc := enc) (C := Try.checked) false ⟨#[], #[.agg #[.int .i64 0, .int .i64 0, .slice none 0 0], .agg #[.slice none 0 0], .slice none 0 0, .slice none 0 0], []⟩ 8 (by kernel_rfl) (by kernel_rfl) (by kernel_rfl) (by kernel_rfl))
    (fun n => Ev.ok6 n) (by kernel_rfl) rfl rfl Try.underlying4 rfl (by kernel_rfl) (by kernel_rfl)
    (fun ds hd => by match ds, hd with | [_, _, _, _], _ => rfl) (fun x hx => by obtain ⟨n, h⟩ := N.laws_FnExactDispatch_pure x.1 x.2.1 x.2.2.1 x.2.2.2.1 x.2.2.2.2.1 x.2.2.2.2.2 hx; exact ⟨n, _, h, rfl⟩)
theorem over : Rows.fnExactDispatchRow.holds Try.pinned (OpenSpec.ofChange Rows.fnExactDispatchSpec) :=
  OpenClaim.holds_of_wide 6 Try.f6 rfl rfl rfl rfl rfl rfl rfl ⟨rfl, rfl, rfl, rfl, rfl⟩ rfl rfl rfl rfl rfl (by kernel_rfl) Try.func6 (by kernel_rfl)
    (of_decide_eq_true (by kernel_rfl)) (by unfold Func.isWrapper; first | (rw [if_pos (by decide +kernel)]; kernel_rfl) | (rw [if_neg (by decide +kernel)]; exact ⟨rfl, rfl⟩))
    (fun os started H enc _ => lifted os started H enc)
end Go.Proofs.Ytglbgceejloiaaa.fnExactDispatch
namespace Go.Proofs.Ytglbgceejloiaaa
theorem fnExactDispatch_holds : Rows.FnExactDispatchSaid := fnExactDispatch.over
#print axioms fnExactDispatch_holds
end Go.Proofs.Ytglbgceejloiaaa
