/- The law FnExactParseAct,as a row over listed variables,and its tied card: its function's summary,its plain statement. Conditions: those of the row. -/
import Derived.Test.YtddkakpbnplbjaaDoorRows
import Derived.Test.YtddkakpbnplbjaaDoorCards
import Derived.Test.YtddkakpbnplbjaaDoorTie
import Derived.Test.YtddkakpbnplbjaaDoorFnExactParseActSum0
import Derived.Test.YtddkakpbnplbjaaDoorFnExactParseActPure
import Derived.WalkKit
import Derived.ProofKit
import Derived.LaidMore
import Derived.Lay
import Derived.MakeChecks
import Derived.SevenTiedAt
namespace Go.Proofs.YtddkakpbnplbjaaDoor.fnExactParseAct
open Go Go.Ev Go.Proofs
set_option linter.unusedVariables false
set_option maxRecDepth 100000
theorem own:ownKnob Tryd.prog.godebug=none:=by kernel_rfl
theorem lifted(os:Os)(started:os.Started)(H:Type)(enc:TypeId×Value→H):
  ReturnsInHanded {} Tryd.checked os 3 .any (fun w args=>(Rows.fnExactParseActSpec.pre enc Tryd.prog Tryd.f3 [] false w args∧laidMetH Tryd.prog Rows.fnExactParseActRow.laid w)∧sizedMet enc Tryd.prog Tryd.f3 (OpenSpec.ofChange Rows.fnExactParseActSpec) false w args) (Rows.fnExactParseActSpec.post enc Tryd.prog Tryd.f3 false true false false):=
 Nr (T:=CT) (C:=Tryd.checked) (F:=fun n=>(Ev.s3 n).f) (laid:=Rows.fnExactParseActRow.laid) own started (by kernel_rfl) Tryd.func3
  (ChangeSpec.witness_shaped (enc:=enc) (C:=Tryd.checked) (os:=os) (X:=fun w _=>laidMetH Tryd.prog Rows.fnExactParseActRow.laid w) false (World.laidAll Tryd.prog os Rows.fnExactParseActRow.laid) #[.string ByteArray.empty] 8 rfl (World.shaped_of_ZipB (by kernel_rfl) (by kernel_rfl)) (by kernel_rfl) (by kernel_rfl) (by kernel_rfl)
   (by rw[MakeChecks.laidMetH_plain _ _ _ (by kernel_rfl)];exact laidMet_laidAll _ (by kernel_rfl) (by kernel_rfl)))
  (Oc Tryd.lays145 (by kernel_rfl) (List.mem_cons_of_mem _ (List.mem_cons_of_mem _ List.mem_cons_self)) (by kernel_rfl) 5 4 rfl rfl (g1 := 2) (g2 := 3) (ti := 71) (tp := 123) (te := 125) (by kernel_rfl) (by kernel_rfl) (by kernel_rfl) (by kernel_rfl) Tryd.underlying71 (fun u h => typeName_ptr_named (nm := "errors.errorString") (by kernel_rfl) (by kernel_rfl) (by decide) u h) Tryd.underlying123 Tryd.underlying125 rfl rfl rfl (by kernel_rfl) (by kernel_rfl))
  (fun q n=>(@Ev.Sy ⟨q⟩ n).1) (by kernel_rfl) rfl rfl Tryd.underlying4 rfl (by kernel_rfl) (by kernel_rfl)
  (fun ds hd=>by match ds,hd with | [_],_=>rfl) (fun x hx=>by obtain⟨n,h⟩:=N.QI x hx;exact⟨n,_,h,rfl⟩)
theorem over:Rows.fnExactParseActRow.holds Tryd.pinned (OpenSpec.ofChange Rows.fnExactParseActSpec):=
 OpenClaim.holds_of_wide 3 Tryd.f3 rfl rfl rfl rfl rfl rfl rfl ⟨rfl,rfl,rfl,rfl,rfl⟩ rfl rfl rfl rfl rfl (by kernel_rfl) Tryd.func3 (by kernel_rfl)
  (of_decide_eq_true (by kernel_rfl)) (by unfold Func.isWrapper;first|(rw[if_pos (by decide +kernel)];kernel_rfl)|(rw[if_neg (by decide +kernel)];exact⟨rfl,rfl⟩))
  (fun os started H enc _=>lifted os started H enc)
end Go.Proofs.YtddkakpbnplbjaaDoor.fnExactParseAct
namespace Go.Proofs.YtddkakpbnplbjaaDoor
open Go
theorem fnExactParseAct_holds:Rows.FnExactParseActCardSaid:=
 Claim7.holds_tied_plain_at .later [] [.data, .data, .data, .data, .sentinel, .sentinel, .pinned] true (true, "01cc1bf3def49e1590720da792eed54815ae63ca8a5474b5002d4b625f5a7b67") true fnExactParseAct.over (fun _ h => by cases h) (by kernel_rfl) (fun _ h => by cases h) fnExactParseAct_row_tie rfl ⟨rfl, rfl⟩ (by kernel_rfl) rfl
  (fun f fn hf V2=>by
   obtain rfl : f = 3 := Option.some.inj ((show Tryd.prog.funcNamed "loop.example/g00179/laws.FnExactParseAct" = some 3 by kernel_rfl).symm.trans hf) |>.symm
   obtain rfl:fn=Tryd.f3:=(Option.some.inj (Tryd.func3.symm.trans V2)).symm
   exact⟨by kernel_rfl,fun j t ht=>by
    rw[Tryd.params3]at ht;have hm:t∈[9]:=by simpa using Array.mem_of_getElem? ht
    have UN:([9].all fun u => !Tryd.prog.wantsStandIn u)=true:=by kernel_rfl
    exact(show Tryd.prog.wantsStandIn t=false by simpa using List.all_eq_true.1 UN t hm)⟩)
  (by kernel_rfl)
#print axioms fnExactParseAct_holds
end Go.Proofs.YtddkakpbnplbjaaDoor
