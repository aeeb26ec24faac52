/- The law FnRuns,as a row: its function's summary,its plain statement. Conditions: those of the row. -/
import Derived.Test.YthlchdmdanagkaaGreatRows
import Derived.Test.YthlchdmdanagkaaGreatFnRunsSum1
import Derived.Test.YthlchdmdanagkaaGreatFnRunsPure
import Derived.WalkKit
import Derived.ProofKit
namespace Go.Proofs.YthlchdmdanagkaaGreat.fnRuns
open Go Go.Ev Go.Proofs
set_option linter.unusedVariables false
set_option maxRecDepth 100000
theorem own:ownKnob Tryz.prog.godebug=none:=by kernel_rfl
theorem lifted(os:Os)(started:os.Started)(H:Type)(enc:TypeId×Value→H):
  ReturnsInHanded {} Tryz.checked os 4 .any (Rows.fnRunsSpec.pre6 enc Tryz.prog Tryz.f4 Rows.fnRunsRow.domain false) (Rows.fnRunsSpec.post enc Tryz.prog Tryz.f4 false true false false):=
 Oe (C:=Tryz.checked) (F:=fun n=>(Ev.s4 n).f) own started (by kernel_rfl) Tryz.func4
  (ChangeSpec.witness6 (enc:=enc) (C:=Tryz.checked) false ⟨#[], #[.slice none 0 0],[]⟩ 8 (by kernel_rfl) (by kernel_rfl) (by kernel_rfl) (by kernel_rfl))
  (fun n=>(Ev.yR n).1) (by kernel_rfl) rfl rfl Tryz.underlying4 rfl (by kernel_rfl) (by kernel_rfl)
  (fun ds hd=>by match ds,hd with | [_],_=>rfl) (fun x hx=>by obtain⟨n,h⟩:=N.cJ x hx;exact⟨n,_,h,rfl⟩)
theorem pD:Rows.fnRunsRow.holds Tryz.pinned (OpenSpec.ofChange Rows.fnRunsSpec):=
 OpenClaim.holds_of_wide 4 Tryz.f4 rfl rfl rfl rfl rfl rfl rfl ⟨rfl,rfl,rfl,rfl,rfl⟩ rfl rfl rfl rfl rfl (by kernel_rfl) Tryz.func4 (by kernel_rfl)
  (of_decide_eq_true (by kernel_rfl)) (by unfold Func.isWrapper;first|(rw[if_pos (by decide +kernel)];kernel_rfl)|(rw[if_neg (by decide +kernel)];exact⟨rfl,rfl⟩))
  (fun os started H enc _=>lifted os started H enc)
end Go.Proofs.YthlchdmdanagkaaGreat.fnRuns
namespace Go.Proofs.YthlchdmdanagkaaGreat
theorem fnRuns_holds:Rows.FnRunsSaid:=fnRuns.pD
#print axioms fnRuns_holds
end Go.Proofs.YthlchdmdanagkaaGreat
