/- The law FnTook,as a row: its function's summary,its plain statement. Conditions: those of the row. -/
import Derived.Test.YtccgnkaemdnniaaGreatRows
import Derived.Test.YtccgnkaemdnniaaGreatFnTookSum1
import Derived.Test.YtccgnkaemdnniaaGreatFnTookPure
import Derived.WalkKit
import Derived.ProofKit
namespace Go.Proofs.YtccgnkaemdnniaaGreat.fnTook
open Go Go.Ev Go.Proofs
set_option linter.unusedVariables false
set_option maxRecDepth 100000
theorem own:ownKnob Tryz.prog.godebug=none:=by kernel_rfl
theorem lifted(os:Os)(started:os.Started)(H:Type)(enc:TypeId×Value→H):
  ReturnsInHanded {} Tryz.checked os 5 .any (Rows.fnTookSpec.pre6 enc Tryz.prog Tryz.f5 Rows.fnTookRow.domain false) (Rows.fnTookSpec.post enc Tryz.prog Tryz.f5 false true false false):=
 Oo (C:=Tryz.checked) (F:=fun n=>(Ev.s5 n).f) own started (by kernel_rfl) Tryz.func5
  (ChangeSpec.witness6 (enc:=enc) (C:=Tryz.checked) false ⟨#[], #[.slice none 0 0],[]⟩ 8 (by kernel_rfl) (by kernel_rfl) (by kernel_rfl) (by kernel_rfl))
  (fun n=>(Ev.rz n).1) (by kernel_rfl) rfl rfl Tryz.underlying4 rfl (by kernel_rfl) (by kernel_rfl)
  (fun ds hd=>by match ds,hd with | [_],_=>rfl) (fun x hx=>by obtain⟨n,h⟩:=N.Zw x hx;exact⟨n,_,h,rfl⟩)
theorem kg:Rows.fnTookRow.holds Tryz.pinned (OpenSpec.ofChange Rows.fnTookSpec):=
 OpenClaim.holds_of_wide 5 Tryz.f5 rfl rfl rfl rfl rfl rfl rfl ⟨rfl,rfl,rfl,rfl,rfl⟩ rfl rfl rfl rfl rfl (by kernel_rfl) Tryz.func5 (by kernel_rfl)
  (of_decide_eq_true (by kernel_rfl)) (by unfold Func.isWrapper;first|(rw[if_pos (by decide +kernel)];kernel_rfl)|(rw[if_neg (by decide +kernel)];exact⟨rfl,rfl⟩))
  (fun os started H enc _=>lifted os started H enc)
end Go.Proofs.YtccgnkaemdnniaaGreat.fnTook
namespace Go.Proofs.YtccgnkaemdnniaaGreat
theorem fnTook_holds:Rows.FnTookSaid:=fnTook.kg
#print axioms fnTook_holds
end Go.Proofs.YtccgnkaemdnniaaGreat
