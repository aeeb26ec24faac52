/- The law FnWhole,as a row. Conditions: those of the row. -/
import Derived.Test.YtimfhfkcgkplcaaGreatDoorFnWholeRow1
namespace Go.Proofs.YtimfhfkcgkplcaaGreatDoor.fnWhole
open Go Go.Ev Go.Proofs
set_option linter.unusedVariables false
set_option maxRecDepth 100000
theorem over:Rows.fnWholeRow.holds Tryz.pinned (OpenSpec.ofChange Rows.fnWholeSpec):=
 OpenClaim.holds_of_wide 3 Tryz.f3 rfl rfl rfl rfl rfl rfl rfl ⟨rfl,rfl,rfl,rfl,rfl⟩ rfl rfl rfl rfl rfl (by kernel_rfl) Tryz.func3 closed
  (of_decide_eq_true (by kernel_rfl)) (by unfold Func.isWrapper;first|(rw[if_pos (by decide +kernel)];kernel_rfl)|(rw[if_neg (by decide +kernel)];exact⟨rfl,rfl⟩))
  (fun os started H enc _=>lifted os started H enc)
end Go.Proofs.YtimfhfkcgkplcaaGreatDoor.fnWhole
namespace Go.Proofs.YtimfhfkcgkplcaaGreatDoor
open Go
theorem fnWhole_holds:Rows.FnWholeCardSaid:=
 Claim7.holds_tied_plain_at .later [] [.data, .data, .data] true (true, "e36a4731e98365c52347e114aec46811c1975961d1da3e330af1fe5199744b03") true fnWhole.over (fun _ h => by cases h) (by kernel_rfl) (fun _ h => by cases h) fnWhole_row_tie rfl ⟨rfl, rfl⟩ (by kernel_rfl) rfl
  (fun f fn hf xw=>by
   obtain rfl : f = 3 := Option.some.inj ((show Tryz.prog.funcNamed "loop.example/g00179/laws.FnWhole" = some 3 by kernel_rfl).symm.trans hf) |>.symm
   obtain rfl:fn=Tryz.f3:=(Option.some.inj (Tryz.func3.symm.trans xw)).symm
   exact⟨by kernel_rfl,fun j t ht=>by
    rw[Tryz.params3]at ht;have hm:t∈[22]:=by simpa using Array.mem_of_getElem? ht
    have vY:([22].all fun u => !Tryz.prog.wantsStandIn u)=true:=by kernel_rfl
    exact(show Tryz.prog.wantsStandIn t=false by simpa using List.all_eq_true.1 vY t hm)⟩)
  (by kernel_rfl)
#print axioms fnWhole_holds
end Go.Proofs.YtimfhfkcgkplcaaGreatDoor
