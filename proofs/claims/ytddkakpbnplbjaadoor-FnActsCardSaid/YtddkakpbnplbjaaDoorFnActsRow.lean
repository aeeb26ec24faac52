/- The law FnActs,as a row over listed variables,and its tied card: its function's summary,its plain statement. Conditions: those of the row. -/
import Derived.Test.YtddkakpbnplbjaaDoorRows
import Derived.Test.YtddkakpbnplbjaaDoorCards
import Derived.Test.YtddkakpbnplbjaaDoorTie
import Derived.Test.YtddkakpbnplbjaaDoorFnActsSum0
import Derived.Test.YtddkakpbnplbjaaDoorFnActsPure
import Derived.WalkKit
import Derived.ProofKit
import Derived.LaidMore
import Derived.Lay
import Derived.MakeChecks
import Derived.SevenTiedAt
namespace Go.Proofs.YtddkakpbnplbjaaDoor.fnActs
open Go Go.Ev Go.Proofs
set_option linter.unusedVariables false
set_option maxRecDepth 100000
theorem own:ownKnob Tryd.prog.godebug=none:=by kernel_rfl
theorem lifted(os:Os)(started:os.Started)(H:Type)(enc:TypeId×Value→H):
  ReturnsInHanded {} Tryd.checked os 4 .any (fun w args=>(Rows.fnActsSpec.pre enc Tryd.prog Tryd.f4 [] false w args∧laidMetH Tryd.prog Rows.fnActsRow.laid w)∧sizedMet enc Tryd.prog Tryd.f4 (OpenSpec.ofChange Rows.fnActsSpec) false w args) (Rows.fnActsSpec.post enc Tryd.prog Tryd.f4 false true false false):=
 N6 (T:=CX) (C:=Tryd.checked) (F:=fun n=>(Ev.s4 n).f) (laid:=Rows.fnActsRow.laid) own started (by kernel_rfl) Tryd.func4
  (ChangeSpec.witness_shaped (enc:=enc) (C:=Tryd.checked) (os:=os) (X:=fun w _=>laidMetH Tryd.prog Rows.fnActsRow.laid w) false (World.laidAll Tryd.prog os Rows.fnActsRow.laid) #[.slice none 0 0] 8 rfl (World.shaped_of_ZipB (by kernel_rfl) (by kernel_rfl)) (by kernel_rfl) (by kernel_rfl) (by kernel_rfl)
   (by rw[MakeChecks.laidMetH_plain _ _ _ (by kernel_rfl)];exact laidMet_laidAll _ (by kernel_rfl) (by kernel_rfl)))
  (Ov Tryd.lays145 (by kernel_rfl) (List.mem_cons_of_mem _ (List.mem_cons_of_mem _ List.mem_cons_self)) (by kernel_rfl) 5 4 rfl rfl (g1 := 2) (g2 := 3) (ti := 71) (tp := 123) (te := 125) (by kernel_rfl) (by kernel_rfl) (by kernel_rfl) (by kernel_rfl) Tryd.underlying71 (fun u h => typeName_ptr_named (nm := "errors.errorString") (by kernel_rfl) (by kernel_rfl) (by decide) u h) Tryd.underlying123 Tryd.underlying125 rfl rfl rfl (by kernel_rfl) (by kernel_rfl))
  (fun q n=>(@Ev.U2 ⟨q⟩ n).1) (by kernel_rfl) rfl rfl Tryd.underlying4 rfl (by kernel_rfl) (by kernel_rfl)
  (fun ds hd=>by match ds,hd with | [_],_=>rfl) (fun x hx=>by obtain⟨n,h⟩:=N.Ra x hx;exact⟨n,_,h,rfl⟩)
theorem over:Rows.fnActsRow.holds Tryd.pinned (OpenSpec.ofChange Rows.fnActsSpec):=
 OpenClaim.holds_of_wide 4 Tryd.f4 rfl rfl rfl rfl rfl rfl rfl ⟨rfl,rfl,rfl,rfl,rfl⟩ rfl rfl rfl rfl rfl (by kernel_rfl) Tryd.func4 (by kernel_rfl)
  (of_decide_eq_true (by kernel_rfl)) (by unfold Func.isWrapper;first|(rw[if_pos (by decide +kernel)];kernel_rfl)|(rw[if_neg (by decide +kernel)];exact⟨rfl,rfl⟩))
  (fun os started H enc _=>lifted os started H enc)
end Go.Proofs.YtddkakpbnplbjaaDoor.fnActs
namespace Go.Proofs.YtddkakpbnplbjaaDoor
open Go
theorem fnActs_holds:Rows.FnActsCardSaid:=
 Claim7.holds_tied_plain_at .later [] [.data, .data, .data, .data, .sentinel, .sentinel, .pinned] true (true, "01cc1bf3def49e1590720da792eed54815ae63ca8a5474b5002d4b625f5a7b67") true fnActs.over (fun _ h => by cases h) (by kernel_rfl) (fun _ h => by cases h) fnActs_row_tie rfl ⟨rfl, rfl⟩ (by kernel_rfl) rfl
  (fun f fn hf YH=>by
   obtain rfl : f = 4 := Option.some.inj ((show Tryd.prog.funcNamed "loop.example/g00179/laws.FnActs" = some 4 by kernel_rfl).symm.trans hf) |>.symm
   obtain rfl:fn=Tryd.f4:=(Option.some.inj (Tryd.func4.symm.trans YH)).symm
   exact⟨by kernel_rfl,fun j t ht=>by
    rw[Tryd.params4]at ht;have hm:t∈[30]:=by simpa using Array.mem_of_getElem? ht
    have Wa:([30].all fun u => !Tryd.prog.wantsStandIn u)=true:=by kernel_rfl
    exact(show Tryd.prog.wantsStandIn t=false by simpa using List.all_eq_true.1 Wa t hm)⟩)
  (by kernel_rfl)
#print axioms fnActs_holds
end Go.Proofs.YtddkakpbnplbjaaDoor
