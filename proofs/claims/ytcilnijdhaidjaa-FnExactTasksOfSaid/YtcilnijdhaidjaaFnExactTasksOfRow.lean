/- The law FnExactTasksOf, as a row: its function's summary, its plain statement. Conditions: those of the row. -/
import Derived.Test.YtcilnijdhaidjaaRows
import Derived.Test.YtcilnijdhaidjaaFnExactTasksOfSum0
import Derived.Test.YtcilnijdhaidjaaFnExactTasksOfPure
import Derived.WalkKit
import Derived.ProofKit
namespace Go.Proofs.Ytcilnijdhaidjaa.fnExactTasksOf
open Go Go.Ev Go.Proofs
set_option linter.unusedVariables false
set_option maxRecDepth 100000
theorem own : ownKnob Try.prog.godebug = none := by kernel_rfl
theorem lifted (os : Os) (started : os.Started) (H : Type) (enc : TypeId × Value → H) :
    ReturnsInHanded {} Try.checked os 5 .any (Rows.fnExactTasksOfSpec.pre6 enc Try.prog Try.f5 Rows.fnExactTasksOfRow.domain false) (Rows.fnExactTasksOfSpec.post enc Try.prog Try.f5 false true false false) :=
  row_ok (C := Try.checked) (F := fun n => (Ev.s5 n).f) own started (by kernel_rfl) Try.func5
    (ChangeSpec.witness6 (enc := enc) (C := Try.checked) false ⟨#[], #[.agg #[.int .i64 0, .int .i64 0, .slice none 0 0, .slice none 0 0, .int .i64 0]], []⟩ 8 (by kernel_rfl) (by kernel_rfl) (by kernel_rfl) (by kernel_rfl))
    (fun n => Ev.ok5 n) (by kernel_rfl) rfl rfl Try.underlying4 rfl (by kernel_rfl) (by kernel_rfl)
    (fun ds hd => by match ds, hd with | [_], _ => rfl) (fun x hx => by obtain ⟨n, h⟩ := N.laws_FnExactTasksOf_pure x.1 x.2.1 x.2.2.1 x.2.2.2.1 x.2.2.2.2 hx; exact ⟨n, _, h, rfl⟩)
theorem over : Rows.fnExactTasksOfRow.holds Try.pinned (OpenSpec.ofChange Rows.fnExactTasksOfSpec) :=
  OpenClaim.holds_of_wide 5 Try.f5 rfl rfl rfl rfl rfl rfl rfl ⟨rfl, rfl, rfl, rfl, rfl⟩ rfl rfl rfl rfl rfl (by kernel_rfl) Try.func5 (by kernel_rfl)
    (of_decide_eq_true (by kernel_rfl)) (by unfold Func.isWrapper; first | (rw [if_pos (by decide +kernel)]; kernel_rfl) | (rw [if_neg (by decide +kernel)]; exact ⟨rfl, rfl⟩))
    (fun os started H enc _ => lifted os started H enc)
end Go.Proofs.Ytcilnijdhaidjaa.fnExactTasksOf
namespace Go.Proofs.Ytcilnijdhaidjaa
theorem fnExactTasksOf_holds : Rows.FnExactTasksOfSaid := fnExactTasksOf.over
#print axioms fnExactTasksOf_holds
end Go.Proofs.Ytcilnijdhaidjaa
