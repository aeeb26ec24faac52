/- The law FnExactIdle, as a row: its function's summary, its plain statement. Conditions: those of the row. -/
import Derived.Test.YtcilnijdhaidjaaRows
import Derived.Test.YtcilnijdhaidjaaFnExactIdleSum0
import Derived.Test.YtcilnijdhaidjaaFnExactIdlePure
import Derived.WalkKit
import Derived.ProofKit
namespace Go.Proofs.Ytcilnijdhaidjaa.fnExactIdle
open Go Go.Ev Go.Proofs
set_option linter.unusedVariables false
set_option maxRecDepth 100000
theorem own : ownKnob Try.prog.godebug = none := by kernel_rfl
theorem lifted (os : Os) (started : os.Started) (H : Type) (enc : TypeId × Value → H) :
    ReturnsInHanded {} Try.checked os 9 .any (Rows.fnExactIdleSpec.pre6 enc Try.prog Try.f9 Rows.fnExactIdleRow.domain false) (Rows.fnExactIdleSpec.post enc Try.prog Try.f9 false true false false) :=
  row_ok (C := Try.checked) (F := fun n => (Ev.s9 n).f) own started (by kernel_rfl) Try.func9
    (ChangeSpec.witness6 (enc := enc) (C := Try.checked) false ⟨#[], #[.agg #[.int .i64 0, .int .i64 0, .slice none 0 0, .slice none 0 0, .int .i64 0, .slice none 0 0, .slice none 0 0, .slice none 0 0, .slice none 0 0, .slice none 0 0, .int .i64 0]], []⟩ 8 (by kernel_rfl) (by kernel_rfl) (by kernel_rfl) (by kernel_rfl))
    (fun n => Ev.ok9 n) (by kernel_rfl) rfl rfl Try.underlying4 rfl (by kernel_rfl) (by kernel_rfl)
    (fun ds hd => by match ds, hd with | [_], _ => rfl) (fun x hx => by obtain ⟨n, h⟩ := N.laws_FnExactIdle_pure x.1 x.2.1 x.2.2.1 x.2.2.2.1 x.2.2.2.2.1 x.2.2.2.2.2.1 x.2.2.2.2.2.2.1 x.2.2.2.2.2.2.2.1 x.2.2.2.2.2.2.2.2.1 x.2.2.2.2.2.2.2.2.2.1 x.2.2.2.2.2.2.2.2.2.2 hx; exact ⟨n, _, h, rfl⟩)
theorem over : Rows.fnExactIdleRow.holds Try.pinned (OpenSpec.ofChange Rows.fnExactIdleSpec) :=
  OpenClaim.holds_of_wide 9 Try.f9 rfl rfl rfl rfl rfl rfl rfl ⟨rfl, rfl, rfl, rfl, rfl⟩ rfl rfl rfl rfl rfl (by kernel_rfl) Try.func9 (by kernel_rfl)
    (of_decide_eq_true (by kernel_rfl)) (by unfold Func.isWrapper; first | (rw [if_pos (by decide +kernel)]; kernel_rfl) | (rw [if_neg (by decide +kernel)]; exact ⟨rfl, rfl⟩))
    (fun os started H enc _ => lifted os started H enc)
end Go.Proofs.Ytcilnijdhaidjaa.fnExactIdle
namespace Go.Proofs.Ytcilnijdhaidjaa
theorem fnExactIdle_holds : Rows.FnExactIdleSaid := fnExactIdle.over
#print axioms fnExactIdle_holds
end Go.Proofs.Ytcilnijdhaidjaa
