/- The law FnBegun,as a row: its function's summary,its plain statement. Conditions: those of the row. -/
import Derived.Test.YtglbgceejloiaaaRows
import Derived.Test.YtglbgceejloiaaaFnBegunSum1
import Derived.Test.YtglbgceejloiaaaFnBegunPure
import Derived.WalkKit
import Derived.ProofKit
namespace Go.Proofs.Ytglbgceejloiaaa.fnBegun
open Go Go.Ev Go.Proofs
set_option linter.unusedVariables false
set_option maxRecDepth 100000
theorem own:ownKnob Try.prog.godebug=none:=by kernel_rfl
theorem lifted (os:Os) (started:os.Started) (H:Type) (enc:TypeId×Value→H) :
  ReturnsInHanded {} Try.checked os 3 .any (Rows.fnBegunSpec.pre6 enc Try.prog Try.f3 Rows.fnBegunRow.domain false) (Rows.fnBegunSpec.post enc Try.prog Try.f3 false true false false) :=
 Ov (C:=Try.checked) (F:=fun n=>(Ev.s3 n).f) own started (by kernel_rfl) Try.func3
  (ChangeSpec.witness6 (enc:=enc) (C:=Try.checked) false ⟨#[], #[.slice none 0 0],[]⟩ 8 (by kernel_rfl) (by kernel_rfl) (by kernel_rfl) (by kernel_rfl))
  (fun n=>Ev.gD n) (by kernel_rfl) rfl rfl Try.underlying4 rfl (by kernel_rfl) (by kernel_rfl)
  (fun ds hd=>by match ds,hd with | [_],_=>rfl) (fun x hx=>by obtain ⟨n,h⟩:=N.Sb x hx;exact ⟨n,_,h,rfl⟩)
theorem bE:Rows.fnBegunRow.holds Try.pinned (OpenSpec.ofChange Rows.fnBegunSpec) :=
 OpenClaim.holds_of_wide 3 Try.f3 rfl rfl rfl rfl rfl rfl rfl ⟨rfl,rfl,rfl,rfl,rfl⟩ rfl rfl rfl rfl rfl (by kernel_rfl) Try.func3 (by kernel_rfl)
  (of_decide_eq_true (by kernel_rfl)) (by unfold Func.isWrapper;first | (rw [if_pos (by decide +kernel)];kernel_rfl) | (rw [if_neg (by decide +kernel)];exact ⟨rfl,rfl⟩))
  (fun os started H enc _=>lifted os started H enc)
end Go.Proofs.Ytglbgceejloiaaa.fnBegun
namespace Go.Proofs.Ytglbgceejloiaaa
theorem fnBegun_holds:Rows.FnBegunSaid:=fnBegun.bE
#print axioms fnBegun_holds
end Go.Proofs.Ytglbgceejloiaaa
