/- The law FnExactPieces, as a row: its function's summary, its plain statement. Conditions: those of the row. -/
import Derived.Test.YtcilnijdhaidjaaRows
import Derived.Test.YtcilnijdhaidjaaFnExactPiecesSum0
import Derived.Test.YtcilnijdhaidjaaFnExactPiecesPure
import Derived.WalkKit
import Derived.ProofKit
namespace Go.Proofs.Ytcilnijdhaidjaa.fnExactPieces
open Go Go.Ev Go.Proofs
set_option linter.unusedVariables false
set_option maxRecDepth 100000
theorem own : ownKnob Try.prog.godebug = none := by kernel_rfl
theorem lifted (os : Os) (started : os.Started) (H : Type) (enc : TypeId × Value → H) :
    ReturnsInHanded {} Try.checked os 12 .any (Rows.fnExactPiecesSpec.pre6 enc Try.prog Try.f12 Rows.fnExactPiecesRow.domain false) (Rows.fnExactPiecesSpec.post enc Try.prog Try.f12 false true false false) :=
  row_ok (C := Try.checked) (F := fun n => (Ev.s12 n).f) own started (by kernel_rfl) Try.func12
    (ChangeSpec.witness6 (enc := enc) (C := Try.checked) false ⟨#[], #[.agg #[.int .i64 0, .int .i64 0, .slice none 0 0, .slice none 0 0, .int .i64 0, .slice none 0 0, .slice none 0 0, .slice none 0 0, .slice none 0 0, .slice none 0 0, .int .i64 0]], []⟩ 8 (by kernel_rfl) (by kernel_rfl) (by kernel_rfl) (by kernel_rfl))
    (fun n => Ev.ok12 n) (by kernel_rfl) rfl rfl Try.underlying4 rfl (by kernel_rfl) (by kernel_rfl)
    (fun ds hd => by match ds, hd with | [_], _ => rfl) (fun x hx => by obtain ⟨n, h⟩ := N.laws_FnExactPieces_pure x.1 x.2.1 x.2.2.1 x.2.2.2.1 x.2.2.2.2.1 x.2.2.2.2.2.1 x.2.2.2.2.2.2.1 x.2.2.2.2.2.2.2.1 x.2.2.2.2.2.2.2.2.1 x.2.2.2.2.2.2.2.2.2.1 x.2.2.2.2.2.2.2.2.2.2 hx; exact ⟨n, _, h, rfl⟩)
theorem over : Rows.fnExactPiecesRow.holds Try.pinned (OpenSpec.ofChange Rows.fnExactPiecesSpec) :=
  OpenClaim.holds_of_wide 12 Try.f12 rfl rfl rfl rfl rfl rfl rfl ⟨rfl, rfl, rfl, rfl, rfl⟩ rfl rfl rfl rfl rfl (by kernel_rfl) Try.func12 (by kernel_rfl)
    (of_decide_eq_true (by kernel_rfl)) (by unfold Func.isWrapper; first | (rw [if_pos (by decide +kernel)]; kernel_rfl) | (rw [if_neg (by decide +kernel)]; exact ⟨rfl, rfl⟩))
    (fun os started H enc _ => lifted os started H enc)
end Go.Proofs.Ytcilnijdhaidjaa.fnExactPieces
namespace Go.Proofs.Ytcilnijdhaidjaa
theorem fnExactPieces_holds : Rows.FnExactPiecesSaid := fnExactPieces.over
#print axioms fnExactPieces_holds
end Go.Proofs.Ytcilnijdhaidjaa
