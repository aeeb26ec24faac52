/- The law FnTop,as a row: its function's summary,its plain statement. Conditions: those of the row. -/
import Derived.Test.YthlchdmdanagkaaGreatRows
import Derived.Test.YthlchdmdanagkaaGreatFnTopSum1
import Derived.Test.YthlchdmdanagkaaGreatFnTopPure
import Derived.WalkKit
import Derived.ProofKit
namespace Go.Proofs.YthlchdmdanagkaaGreat.fnTop
open Go Go.Ev Go.Proofs
set_option linter.unusedVariables false
set_option maxRecDepth 100000
theorem own:ownKnob Tryz.prog.godebug=none:=by kernel_rfl
theorem lifted(os:Os)(started:os.Started)(H:Type)(enc:TypeId×Value→H):
  ReturnsInHanded {} Tryz.checked os 3 .any (Rows.fnTopSpec.pre6 enc Tryz.prog Tryz.f3 Rows.fnTopRow.domain false) (Rows.fnTopSpec.post enc Tryz.prog Tryz.f3 false true false false):=
 Oe (C:=Tryz.checked) (F:=fun n=>(Ev.s3 n).f) own started (by kernel_rfl) Tryz.func3
  (ChangeSpec.witness6 (enc:=enc) (C:=Tryz.checked) false ⟨#[], #[.slice none 0 0],[]⟩ 8 (by kernel_rfl) (by kernel_rfl) (by kernel_rfl) (by kernel_rfl))
  (fun n=>(Ev.xu n).1) (by kernel_rfl) rfl rfl Tryz.underlying4 rfl (by kernel_rfl) (by kernel_rfl)
  (fun ds hd=>by match ds,hd with | [_],_=>rfl) (fun x hx=>by obtain⟨n,h⟩:=N.dO x hx;exact⟨n,_,h,rfl⟩)
theorem oZ:Rows.fnTopRow.holds Tryz.pinned (OpenSpec.ofChange Rows.fnTopSpec):=
 OpenClaim.holds_of_wide 3 Tryz.f3 rfl rfl rfl rfl rfl rfl rfl ⟨rfl,rfl,rfl,rfl,rfl⟩ rfl rfl rfl rfl rfl (by kernel_rfl) Tryz.func3 (by kernel_rfl)
  (of_decide_eq_true (by kernel_rfl)) (by unfold Func.isWrapper;first|(rw[if_pos (by decide +kernel)];kernel_rfl)|(rw[if_neg (by decide +kernel)];exact⟨rfl,rfl⟩))
  (fun os started H enc _=>lifted os started H enc)
end Go.Proofs.YthlchdmdanagkaaGreat.fnTop
namespace Go.Proofs.YthlchdmdanagkaaGreat
theorem fnTop_holds:Rows.FnTopSaid:=fnTop.oZ
#print axioms fnTop_holds
end Go.Proofs.YthlchdmdanagkaaGreat
