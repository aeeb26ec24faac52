/- The law FnExactPlaces, as a row: its function's summary, its plain statement. Conditions: those of the row. -/
import Derived.Test.YtcilnijdhaidjaaRows
import Derived.Test.YtcilnijdhaidjaaFnExactPlacesSum0
import Derived.Test.YtcilnijdhaidjaaFnExactPlacesPure
import Derived.WalkKit
import Derived.ProofKit
namespace Go.Proofs.Ytcilnijdhaidjaa.fnExactPlaces
open Go Go.Ev Go.Proofs
set_option linter.unusedVariables false
set_option maxRecDepth 100000
theorem own : ownKnob Try.prog.godebug = none := by kernel_rfl
theorem lifted (os : Os) (started : os.Started) (H : Type) (enc : TypeId × Value → H) :
    ReturnsInHanded {} Try.checked os 11 .any (Rows.fnExactPlacesSpec.pre6 enc Try.prog Try.f11 Rows.fnExactPlacesRow.domain false) (Rows.fnExactPlacesSpec.post enc Try.prog Try.f11 false true false false) :=
  row_ok (C := Try.checked) (F := fun n => (Ev.s11 n).f) own started (by kernel_rfl) Try.func11
    (ChangeSpec.witness6 (enc := enc) (C := Try.checked) false ⟨#[], #[.agg #[.int .i64 0, .int .i64 0, .slice none 0 0, .slice none 0 0, .int .i64 0, .slice none 0 0, .slice none 0 0, .slice none 0 0, .slice none 0 0, .slice none 0 0, .int .i64 0]], []⟩ 8 (by kernel_rfl) (by kernel_rfl) (by kernel_rfl) (by kernel_rfl))
    (fun n => Ev.ok11 n) (by kernel_rfl) rfl rfl Try.underlying4 rfl (by kernel_rfl) (by kernel_rfl)
    (fun ds hd => by match ds, hd with | [_], _ => rfl) (fun x hx => by obtain ⟨n, h⟩ := N.laws_FnExactPlaces_pure x.1 x.2.1 x.2.2.1 x.2.2.2.1 x.2.2.2.2.1 x.2.2.2.2.2.1 x.2.2.2.2.2.2.1 x.2.2.2.2.2.2.2.1 x.2.2.2.2.2.2.2.2.1 x.2.2.2.2.2.2.2.2.2.1 x.2.2.2.2.2.2.2.2.2.2 hx; exact ⟨n, _, h, rfl⟩)
theorem over : Rows.fnExactPlacesRow.holds Try.pinned (OpenSpec.ofChange Rows.fnExactPlacesSpec) :=
  OpenClaim.holds_of_wide 11 Try.f11 rfl rfl rfl rfl rfl rfl rfl ⟨rfl, rfl, rfl, rfl, rfl⟩ rfl rfl rfl rfl rfl (by kernel_rfl) Try.func11 (by kernel_rfl)
    (of_decide_eq_true (by kernel_rfl)) (by unfold Func.isWrapper; first | (rw [if_pos (by decide +kernel)]; kernel_rfl) | (rw [if_neg (by decide +kernel)]; exact ⟨rfl, rfl⟩))
    (fun os started H enc _ => lifted os started H enc)
end Go.Proofs.Ytcilnijdhaidjaa.fnExactPlaces
namespace Go.Proofs.Ytcilnijdhaidjaa
theorem fnExactPlaces_holds : Rows.FnExactPlacesSaid := fnExactPlaces.over
#print axioms fnExactPlaces_holds
end Go.Proofs.Ytcilnijdhaidjaa
