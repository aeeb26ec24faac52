/- The law FnPlayed,as a row over listed variables,and its tied card: its function's summary,its plain statement. Conditions: those of the row. -/
import Derived.Test.YthlchdmdanagkaaGreatDoorRows
import Derived.Test.YthlchdmdanagkaaGreatDoorCards
import Derived.Test.YthlchdmdanagkaaGreatDoorTie
import Derived.Test.YthlchdmdanagkaaGreatDoorFnPlayedSum0
import Derived.Test.YthlchdmdanagkaaGreatDoorFnPlayedPure
import Derived.WalkKit
import Derived.ProofKit
import Derived.LaidMore
import Derived.SevenTiedAt
namespace Go.Proofs.YthlchdmdanagkaaGreatDoor.fnPlayed
open Go Go.Ev Go.Proofs
set_option linter.unusedVariables false
set_option maxRecDepth 100000
theorem own:ownKnob Tryz.prog.godebug=none:=by kernel_rfl
theorem lifted(os:Os)(started:os.Started)(H:Type)(enc:TypeId×Value→H):
  ReturnsInHanded {} Tryz.checked os 4 .any (fun w args=>(Rows.fnPlayedSpec.pre enc Tryz.prog Tryz.f4 [] false w args∧laidMetH Tryz.prog Rows.fnPlayedRow.laid w)∧sizedMet enc Tryz.prog Tryz.f4 (OpenSpec.ofChange Rows.fnPlayedSpec) false w args) (Rows.fnPlayedSpec.post enc Tryz.prog Tryz.f4 false true false false):=
 NT (C:=Tryz.checked) (F:=fun n=>(Ev.s4 n).f) (laid:=Rows.fnPlayedRow.laid) own started (by kernel_rfl) Tryz.func4
  (ChangeSpec.witness_shaped (enc:=enc) (C:=Tryz.checked) (os:=os) (X:=fun w _=>laidMetH Tryz.prog Rows.fnPlayedRow.laid w) false (World.doorLaid Tryz.prog 24 os) #[.slice none 0 0] 8 rfl (World.shaped_of_RefB (by kernel_rfl) (by kernel_rfl)) (by kernel_rfl) (by kernel_rfl) (by kernel_rfl)
   (laidMetH_of_parts3 (fuel:=8) (laidMet_of_run' 8 (by kernel_rfl) (by kernel_rfl)) (by kernel_rfl) (by kernel_rfl)))
  (N6 (by kernel_rfl) (List.mem_cons_of_mem _ (List.mem_cons_of_mem _ List.mem_cons_self)) (by kernel_rfl))
  (fun n=>(Ev.wR n).1) (by kernel_rfl) rfl rfl Tryz.underlying4 rfl (by kernel_rfl) (by kernel_rfl)
  (fun ds hd=>by match ds,hd with | [_],_=>rfl) (fun x hx=>by obtain⟨n,h⟩:=N.aN x hx;exact⟨n,_,h,rfl⟩)
theorem over:Rows.fnPlayedRow.holds Tryz.pinned (OpenSpec.ofChange Rows.fnPlayedSpec):=
 OpenClaim.holds_of_wide 4 Tryz.f4 rfl rfl rfl rfl rfl rfl rfl ⟨rfl,rfl,rfl,rfl,rfl⟩ rfl rfl rfl rfl rfl (by kernel_rfl) Tryz.func4 (by kernel_rfl)
  (of_decide_eq_true (by kernel_rfl)) (by unfold Func.isWrapper;first|(rw[if_pos (by decide +kernel)];kernel_rfl)|(rw[if_neg (by decide +kernel)];exact⟨rfl,rfl⟩))
  (fun os started H enc _=>lifted os started H enc)
end Go.Proofs.YthlchdmdanagkaaGreatDoor.fnPlayed
namespace Go.Proofs.YthlchdmdanagkaaGreatDoor
open Go
theorem fnPlayed_holds:Rows.FnPlayedCardSaid:=
 Claim7.holds_tied_plain_at .later [] [.data, .data, .data] true (true, "9c30591aa2cc687ebd97654a6ea8818b0e679df4957cf61586f988df740cd475") false fnPlayed.over (fun _ h => by cases h) (by kernel_rfl) (fun _ h => by cases h) fnPlayed_row_tie rfl ⟨rfl, rfl⟩ (by kernel_rfl) rfl
  (fun f fn hf hfn=>by
   obtain rfl : f = 4 := Option.some.inj ((show Tryz.prog.funcNamed "loop.example/g00179/laws.FnPlayed" = some 4 by kernel_rfl).symm.trans hf) |>.symm
   obtain rfl:fn=Tryz.f4:=(Option.some.inj (Tryz.func4.symm.trans hfn)).symm
   exact⟨by kernel_rfl,fun j t ht=>by
    rw[Tryz.params4]at ht;have hm:t∈[22]:=by simpa using Array.mem_of_getElem? ht
    have zA:([22].all fun u => !Tryz.prog.wantsStandIn u)=true:=by kernel_rfl
    exact(show Tryz.prog.wantsStandIn t=false by simpa using List.all_eq_true.1 zA t hm)⟩)
  (by kernel_rfl)
#print axioms fnPlayed_holds
end Go.Proofs.YthlchdmdanagkaaGreatDoor
