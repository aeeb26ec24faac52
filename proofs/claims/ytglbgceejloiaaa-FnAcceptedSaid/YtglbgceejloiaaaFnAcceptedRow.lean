/- The law FnAccepted,as a row: its function's summary,its plain statement. Conditions: those of the row. -/
import Derived.Test.YtglbgceejloiaaaRows
import Derived.Test.YtglbgceejloiaaaFnAcceptedSum1
import Derived.Test.YtglbgceejloiaaaFnAcceptedPure
import Derived.WalkKit
import Derived.ProofKit
namespace Go.Proofs.Ytglbgceejloiaaa.fnAccepted
open Go Go.Ev Go.Proofs
set_option linter.unusedVariables false
set_option maxRecDepth 100000
theorem own:ownKnob Try.prog.godebug=none:=by kernel_rfl
theorem lifted (os:Os) (started:os.Started) (H:Type) (enc:TypeId×Value→H) :
  ReturnsInHanded {} Try.checked os 4 .any (Rows.fnAcceptedSpec.pre6 enc Try.prog Try.f4 Rows.fnAcceptedRow.domain false) (Rows.fnAcceptedSpec.post enc Try.prog Try.f4 false true false false) :=
 Ov (C:=Try.checked) (F:=fun n=>(Ev.s4 n).f) own started (by kernel_rfl) Try.func4
  (ChangeSpec.witness6 (enc:=enc) (C:=Try.checked) false ⟨#[], #[.slice none 0 0],[]⟩ 8 (by kernel_rfl) (by kernel_rfl) (by kernel_rfl) (by kernel_rfl))
  (fun n=>Ev.ku n) (by kernel_rfl) rfl rfl Try.underlying4 rfl (by kernel_rfl) (by kernel_rfl)
  (fun ds hd=>by match ds,hd with | [_],_=>rfl) (fun x hx=>by obtain ⟨n,h⟩:=N.S9 x hx;exact ⟨n,_,h,rfl⟩)
theorem aq:Rows.fnAcceptedRow.holds Try.pinned (OpenSpec.ofChange Rows.fnAcceptedSpec) :=
 OpenClaim.holds_of_wide 4 Try.f4 rfl rfl rfl rfl rfl rfl rfl ⟨rfl,rfl,rfl,rfl,rfl⟩ rfl rfl rfl rfl rfl (by kernel_rfl) Try.func4 (by kernel_rfl)
  (of_decide_eq_true (by kernel_rfl)) (by unfold Func.isWrapper;first | (rw [if_pos (by decide +kernel)];kernel_rfl) | (rw [if_neg (by decide +kernel)];exact ⟨rfl,rfl⟩))
  (fun os started H enc _=>lifted os started H enc)
end Go.Proofs.Ytglbgceejloiaaa.fnAccepted
namespace Go.Proofs.Ytglbgceejloiaaa
theorem fnAccepted_holds:Rows.FnAcceptedSaid:=fnAccepted.aq
#print axioms fnAccepted_holds
end Go.Proofs.Ytglbgceejloiaaa
