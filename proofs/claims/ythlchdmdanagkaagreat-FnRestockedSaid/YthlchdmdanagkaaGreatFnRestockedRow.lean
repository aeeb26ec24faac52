/- The law FnRestocked,as a row: its function's summary,its plain statement. Conditions: those of the row. -/
import Derived.Test.YthlchdmdanagkaaGreatRows
import Derived.Test.YthlchdmdanagkaaGreatFnRestockedSum1
import Derived.Test.YthlchdmdanagkaaGreatFnRestockedPure
import Derived.WalkKit
import Derived.ProofKit
namespace Go.Proofs.YthlchdmdanagkaaGreat.fnRestocked
open Go Go.Ev Go.Proofs
set_option linter.unusedVariables false
set_option maxRecDepth 100000
theorem own:ownKnob Tryz.prog.godebug=none:=by kernel_rfl
theorem lifted(os:Os)(started:os.Started)(H:Type)(enc:TypeId×Value→H):
  ReturnsInHanded {} Tryz.checked os 5 .any (Rows.fnRestockedSpec.pre6 enc Tryz.prog Tryz.f5 Rows.fnRestockedRow.domain false) (Rows.fnRestockedSpec.post enc Tryz.prog Tryz.f5 false true false false):=
 PN (C:=Tryz.checked) (F:=fun n=>(Ev.s5 n).f) own started (by kernel_rfl) Tryz.func5
  (ChangeSpec.witness6 (enc:=enc) (C:=Tryz.checked) false ⟨#[], #[.slice none 0 0],[]⟩ 8 (by kernel_rfl) (by kernel_rfl) (by kernel_rfl) (by kernel_rfl))
  (fun n=>(Ev.xF n).1) (by kernel_rfl) rfl rfl Tryz.underlying4 rfl (by kernel_rfl) (by kernel_rfl)
  (fun ds hd=>by match ds,hd with | [_],_=>rfl) (fun x hx=>by obtain⟨n,h⟩:=N.ZZ x hx;exact⟨n,_,h,rfl⟩)
theorem ot:Rows.fnRestockedRow.holds Tryz.pinned (OpenSpec.ofChange Rows.fnRestockedSpec):=
 OpenClaim.holds_of_wide 5 Tryz.f5 rfl rfl rfl rfl rfl rfl rfl ⟨rfl,rfl,rfl,rfl,rfl⟩ rfl rfl rfl rfl rfl (by kernel_rfl) Tryz.func5 (by kernel_rfl)
  (of_decide_eq_true (by kernel_rfl)) (by unfold Func.isWrapper;first|(rw[if_pos (by decide +kernel)];kernel_rfl)|(rw[if_neg (by decide +kernel)];exact⟨rfl,rfl⟩))
  (fun os started H enc _=>lifted os started H enc)
end Go.Proofs.YthlchdmdanagkaaGreat.fnRestocked
namespace Go.Proofs.YthlchdmdanagkaaGreat
theorem fnRestocked_holds:Rows.FnRestockedSaid:=fnRestocked.ot
#print axioms fnRestocked_holds
end Go.Proofs.YthlchdmdanagkaaGreat
