/- The law FnWhole,as a row over listed variables,and its tied card: its function's summary,its plain statement. Conditions: those of the row. -/
import Derived.Test.YtimfhfkcgkplcaaGreatDoorRows
import Derived.Test.YtimfhfkcgkplcaaGreatDoorCards
import Derived.Test.YtimfhfkcgkplcaaGreatDoorTie
import Derived.Test.YtimfhfkcgkplcaaGreatDoorFnWholeSum0
import Derived.Test.YtimfhfkcgkplcaaGreatDoorFnWholePure
import Derived.WalkKit
import Derived.ProofKit
import Derived.LaidMore
import Derived.Lay
import Derived.MakeChecks
import Derived.SevenTiedAt
namespace Go.Proofs.YtimfhfkcgkplcaaGreatDoor.fnWhole
open Go Go.Ev Go.Proofs
set_option linter.unusedVariables false
set_option maxRecDepth 100000
theorem own:ownKnob Tryz.prog.godebug=none:=by kernel_rfl
theorem lifted(os:Os)(started:os.Started)(H:Type)(enc:TypeId×Value→H):
  ReturnsInHanded {} Tryz.checked os 3 .any (fun w args=>(Rows.fnWholeSpec.pre enc Tryz.prog Tryz.f3 [] false w args∧laidMetH Tryz.prog Rows.fnWholeRow.laid w)∧sizedMet enc Tryz.prog Tryz.f3 (OpenSpec.ofChange Rows.fnWholeSpec) false w args) (Rows.fnWholeSpec.post enc Tryz.prog Tryz.f3 false true false false):=
 NZ (C:=Tryz.checked) (F:=fun n=>(Ev.s3 n).f) (laid:=Rows.fnWholeRow.laid) own started (by kernel_rfl) Tryz.func3
  (ChangeSpec.witness_shaped (enc:=enc) (C:=Tryz.checked) (os:=os) (X:=fun w _=>laidMetH Tryz.prog Rows.fnWholeRow.laid w) false (World.laidAll Tryz.prog os Rows.fnWholeRow.laid) #[.slice none 0 0] 8 rfl (World.shaped_of_ZipB (by kernel_rfl) (by kernel_rfl)) (by kernel_rfl) (by kernel_rfl) (by kernel_rfl)
   (by rw[MakeChecks.laidMetH_plain _ _ _ (by kernel_rfl)];exact laidMet_laidAll _ (by kernel_rfl) (by kernel_rfl)))
  (OJ (by kernel_rfl) (List.mem_cons_of_mem _ (List.mem_cons_of_mem _ List.mem_cons_self)) (by kernel_rfl))
  (fun n=>(Ev.tG n).1) (by kernel_rfl) rfl rfl Tryz.underlying4 rfl (by kernel_rfl) (by kernel_rfl)
  (fun ds hd=>by match ds,hd with | [_],_=>rfl) (fun x hx=>by obtain⟨n,h⟩:=N.ZW x hx;exact⟨n,_,h,rfl⟩)
end Go.Proofs.YtimfhfkcgkplcaaGreatDoor.fnWhole
