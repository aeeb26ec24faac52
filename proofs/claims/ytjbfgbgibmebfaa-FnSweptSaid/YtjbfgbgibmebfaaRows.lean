/-
  No cell of these rows narrows 'for every input' (looked for: loops, veiled, ifaces, maps, wideKeys, modest, calm, conditions, laid).
  DERIVED. THE GIVEN ROWS OF THIS SEAT. 10 by the template 'for every input the law returns true; each argument reads behind the call as it read before'; 0 by the template 'total and deterministic' (their statements: YtjbfgbgibmebfaaTotals.lean).
  GIVEN WITH THE SEED: the statements are not yours to turn. If you find one false, say at which input.
  Laid BY PROGRAM, IN A SANDBOX (cutbox-rows.mjs): the forced cells as the released guide's own fill.sh prints them over the translation f7956912cd869b2f… (all of the seat's roots in one cut). By AI agents, Wed Nov 11 2026. No macro, syntax, notation, axiom, sorry.
-/
import Derived.Test.YtjbfgbgibmebfaaChecked
import GoSem.Claim
import GoSem.ClaimJoined
import GoSem.ClaimMapViews
import Derived.JoinedTies
import Derived.KernelRfl
namespace Go.Proofs.Ytjbfgbgibmebfaa
/- THE CELL 'sum', in the pinned program and in every row, IS THE sha256 OF THE DUMP (.gsa) THAT YtjbfgbgibmebfaaProg.lean LOADS. Nothing in Lean hashes anything: it is a label: what it is worth is what the hold of that sum in a sandbox is worth. -/
noncomputable def Try.pinned : Pinned := { name := "ytjbfgbgibmebfaa", sum := "f7956912cd869b2f8822b5f6e7bf902658ad9bec6dfc7d2eee2b97a9b1143d08", checked := Try.checked }
namespace Rows
def none {H : Type} : Left H := { results := [], args := [] }

/-- 'laws.FnExactCalm': WHATEVER THE INPUT: true; the input reads as it did. -/
def fnExactCalmSpec : ChangeSpec := { name := "fnExactCalm", fn := fun _ => fun
  | [d] => { results := [.lit (.bool true)], args := [d] }
  | _ => none }
def fnExactCalmRow : OpenClaim := { program := "ytjbfgbgibmebfaa", sum := "f7956912cd869b2f8822b5f6e7bf902658ad9bec6dfc7d2eee2b97a9b1143d08", func := "loop.example/g00179/laws.FnExactCalm", spec := "fnExactCalm", apart := false }
def FnExactCalmSaid : Prop := fnExactCalmRow.holds Try.pinned (OpenSpec.ofChange fnExactCalmSpec)

/-- ITS FALSE NEIGHBOUR: 'it returns false'. Refute it at one input. -/
def fnExactCalmWrong : ChangeSpec := { name := "fnExactCalm", fn := fun _ => fun
  | [d] => { results := [.lit (.bool false)], args := [d] }
  | _ => none }
def FnExactCalmWrongFalsely : Prop := fnExactCalmRow.holds Try.pinned (OpenSpec.ofChange fnExactCalmWrong)

/-- 'laws.FnExactDepotNew': WHATEVER THE INPUT: true; the input reads as it did. -/
def fnExactDepotNewSpec : ChangeSpec := { name := "fnExactDepotNew", fn := fun _ => fun
  | [d1, d2] => { results := [.lit (.bool true)], args := [d1, d2] }
  | _ => none }
def fnExactDepotNewRow : OpenClaim := { program := "ytjbfgbgibmebfaa", sum := "f7956912cd869b2f8822b5f6e7bf902658ad9bec6dfc7d2eee2b97a9b1143d08", func := "loop.example/g00179/laws.FnExactDepotNew", spec := "fnExactDepotNew", apart := false }
def FnExactDepotNewSaid : Prop := fnExactDepotNewRow.holds Try.pinned (OpenSpec.ofChange fnExactDepotNewSpec)

/-- ITS FALSE NEIGHBOUR: 'it returns false'. Refute it at one input. -/
def fnExactDepotNewWrong : ChangeSpec := { name := "fnExactDepotNew", fn := fun _ => fun
  | [d1, d2] => { results := [.lit (.bool false)], args := [d1, d2] }
  | _ => none }
def FnExactDepotNewWrongFalsely : Prop := fnExactDepotNewRow.holds Try.pinned (OpenSpec.ofChange fnExactDepotNewWrong)

/-- 'laws.FnExactAdvance': WHATEVER THE INPUT: true; the input reads as it did. -/
def fnExactAdvanceSpec : ChangeSpec := { name := "fnExactAdvance", fn := fun _ => fun
  | [d1, d2] => { results := [.lit (.bool true)], args := [d1, d2] }
  | _ => none }
def fnExactAdvanceRow : OpenClaim := { program := "ytjbfgbgibmebfaa", sum := "f7956912cd869b2f8822b5f6e7bf902658ad9bec6dfc7d2eee2b97a9b1143d08", func := "loop.example/g00179/laws.FnExactAdvance", spec := "fnExactAdvance", inPlace := ["internal/reflectlite.ValueOf", "internal/reflectlite.Swapper", "(internal/reflectlite.Value).Len"], unfollowed := true, recurses := true, apart := false }
def FnExactAdvanceSaid : Prop := fnExactAdvanceRow.holds Try.pinned (OpenSpec.ofChange fnExactAdvanceSpec)

/-- ITS FALSE NEIGHBOUR: 'it returns false'. Refute it at one input. -/
def fnExactAdvanceWrong : ChangeSpec := { name := "fnExactAdvance", fn := fun _ => fun
  | [d1, d2] => { results := [.lit (.bool false)], args := [d1, d2] }
  | _ => none }
def FnExactAdvanceWrongFalsely : Prop := fnExactAdvanceRow.holds Try.pinned (OpenSpec.ofChange fnExactAdvanceWrong)

/-- 'laws.FnExactDrive': WHATEVER THE INPUT: true; the input reads as it did. -/
def fnExactDriveSpec : ChangeSpec := { name := "fnExactDrive", fn := fun _ => fun
  | [d1, d2, d3] => { results := [.lit (.bool true)], args := [d1, d2, d3] }
  | _ => none }
def fnExactDriveRow : OpenClaim := { program := "ytjbfgbgibmebfaa", sum := "f7956912cd869b2f8822b5f6e7bf902658ad9bec6dfc7d2eee2b97a9b1143d08", func := "loop.example/g00179/laws.FnExactDrive", spec := "fnExactDrive", inPlace := ["internal/reflectlite.ValueOf", "internal/reflectlite.Swapper", "(internal/reflectlite.Value).Len"], unfollowed := true, recurses := true, apart := false }
def FnExactDriveSaid : Prop := fnExactDriveRow.holds Try.pinned (OpenSpec.ofChange fnExactDriveSpec)

/-- ITS FALSE NEIGHBOUR: 'it returns false'. Refute it at one input. -/
def fnExactDriveWrong : ChangeSpec := { name := "fnExactDrive", fn := fun _ => fun
  | [d1, d2, d3] => { results := [.lit (.bool false)], args := [d1, d2, d3] }
  | _ => none }
def FnExactDriveWrongFalsely : Prop := fnExactDriveRow.holds Try.pinned (OpenSpec.ofChange fnExactDriveWrong)

/-- 'laws.FnExactDispatch': WHATEVER THE INPUT: true; the input reads as it did. -/
def fnExactDispatchSpec : ChangeSpec := { name := "fnExactDispatch", fn := fun _ => fun
  | [d1, d2, d3, d4] => { results := [.lit (.bool true)], args := [d1, d2, d3, d4] }
  | _ => none }
def fnExactDispatchRow : OpenClaim := { program := "ytjbfgbgibmebfaa", sum := "f7956912cd869b2f8822b5f6e7bf902658ad9bec6dfc7d2eee2b97a9b1143d08", func := "loop.example/g00179/laws.FnExactDispatch", spec := "fnExactDispatch", apart := false }
def FnExactDispatchSaid : Prop := fnExactDispatchRow.holds Try.pinned (OpenSpec.ofChange fnExactDispatchSpec)

/-- ITS FALSE NEIGHBOUR: 'it returns false'. Refute it at one input. -/
def fnExactDispatchWrong : ChangeSpec := { name := "fnExactDispatch", fn := fun _ => fun
  | [d1, d2, d3, d4] => { results := [.lit (.bool false)], args := [d1, d2, d3, d4] }
  | _ => none }
def FnExactDispatchWrongFalsely : Prop := fnExactDispatchRow.holds Try.pinned (OpenSpec.ofChange fnExactDispatchWrong)

/-- 'laws.FnTasks': WHATEVER THE INPUT: true; the input reads as it did. -/
def fnTasksSpec : ChangeSpec := { name := "fnTasks", fn := fun _ => fun
  | [d] => { results := [.lit (.bool true)], args := [d] }
  | _ => none }
def fnTasksRow : OpenClaim := { program := "ytjbfgbgibmebfaa", sum := "f7956912cd869b2f8822b5f6e7bf902658ad9bec6dfc7d2eee2b97a9b1143d08", func := "loop.example/g00179/laws.FnTasks", spec := "fnTasks", apart := false }
def FnTasksSaid : Prop := fnTasksRow.holds Try.pinned (OpenSpec.ofChange fnTasksSpec)

/-- ITS FALSE NEIGHBOUR: 'it returns false'. Refute it at one input. -/
def fnTasksWrong : ChangeSpec := { name := "fnTasks", fn := fun _ => fun
  | [d] => { results := [.lit (.bool false)], args := [d] }
  | _ => none }
def FnTasksWrongFalsely : Prop := fnTasksRow.holds Try.pinned (OpenSpec.ofChange fnTasksWrong)

/-- 'laws.FnLink': WHATEVER THE INPUT: true; the input reads as it did. -/
def fnLinkSpec : ChangeSpec := { name := "fnLink", fn := fun _ => fun
  | [d] => { results := [.lit (.bool true)], args := [d] }
  | _ => none }
def fnLinkRow : OpenClaim := { program := "ytjbfgbgibmebfaa", sum := "f7956912cd869b2f8822b5f6e7bf902658ad9bec6dfc7d2eee2b97a9b1143d08", func := "loop.example/g00179/laws.FnLink", spec := "fnLink", apart := false }
def FnLinkSaid : Prop := fnLinkRow.holds Try.pinned (OpenSpec.ofChange fnLinkSpec)

/-- ITS FALSE NEIGHBOUR: 'it returns false'. Refute it at one input. -/
def fnLinkWrong : ChangeSpec := { name := "fnLink", fn := fun _ => fun
  | [d] => { results := [.lit (.bool false)], args := [d] }
  | _ => none }
def FnLinkWrongFalsely : Prop := fnLinkRow.holds Try.pinned (OpenSpec.ofChange fnLinkWrong)

/-- 'laws.FnSwept': WHATEVER THE INPUT: true; the input reads as it did. -/
def fnSweptSpec : ChangeSpec := { name := "fnSwept", fn := fun _ => fun
  | [d] => { results := [.lit (.bool true)], args := [d] }
  | _ => none }
def fnSweptRow : OpenClaim := { program := "ytjbfgbgibmebfaa", sum := "f7956912cd869b2f8822b5f6e7bf902658ad9bec6dfc7d2eee2b97a9b1143d08", func := "loop.example/g00179/laws.FnSwept", spec := "fnSwept", apart := false }
def FnSweptSaid : Prop := fnSweptRow.holds Try.pinned (OpenSpec.ofChange fnSweptSpec)

/-- ITS FALSE NEIGHBOUR: 'it returns false'. Refute it at one input. -/
def fnSweptWrong : ChangeSpec := { name := "fnSwept", fn := fun _ => fun
  | [d] => { results := [.lit (.bool false)], args := [d] }
  | _ => none }
def FnSweptWrongFalsely : Prop := fnSweptRow.holds Try.pinned (OpenSpec.ofChange fnSweptWrong)

/-- 'laws.FnBegun': WHATEVER THE INPUT: true; the input reads as it did. -/
def fnBegunSpec : ChangeSpec := { name := "fnBegun", fn := fun _ => fun
  | [d] => { results := [.lit (.bool true)], args := [d] }
  | _ => none }
def fnBegunRow : OpenClaim := { program := "ytjbfgbgibmebfaa", sum := "f7956912cd869b2f8822b5f6e7bf902658ad9bec6dfc7d2eee2b97a9b1143d08", func := "loop.example/g00179/laws.FnBegun", spec := "fnBegun", apart := false }
def FnBegunSaid : Prop := fnBegunRow.holds Try.pinned (OpenSpec.ofChange fnBegunSpec)

/-- ITS FALSE NEIGHBOUR: 'it returns false'. Refute it at one input. -/
def fnBegunWrong : ChangeSpec := { name := "fnBegun", fn := fun _ => fun
  | [d] => { results := [.lit (.bool false)], args := [d] }
  | _ => none }
def FnBegunWrongFalsely : Prop := fnBegunRow.holds Try.pinned (OpenSpec.ofChange fnBegunWrong)

/-- 'laws.FnDispatched': WHATEVER THE INPUT: true; the input reads as it did. -/
def fnDispatchedSpec : ChangeSpec := { name := "fnDispatched", fn := fun _ => fun
  | [d] => { results := [.lit (.bool true)], args := [d] }
  | _ => none }
def fnDispatchedRow : OpenClaim := { program := "ytjbfgbgibmebfaa", sum := "f7956912cd869b2f8822b5f6e7bf902658ad9bec6dfc7d2eee2b97a9b1143d08", func := "loop.example/g00179/laws.FnDispatched", spec := "fnDispatched", apart := false }
def FnDispatchedSaid : Prop := fnDispatchedRow.holds Try.pinned (OpenSpec.ofChange fnDispatchedSpec)

/-- ITS FALSE NEIGHBOUR: 'it returns false'. Refute it at one input. -/
def fnDispatchedWrong : ChangeSpec := { name := "fnDispatched", fn := fun _ => fun
  | [d] => { results := [.lit (.bool false)], args := [d] }
  | _ => none }
def FnDispatchedWrongFalsely : Prop := fnDispatchedRow.holds Try.pinned (OpenSpec.ofChange fnDispatchedWrong)

/- THE SECOND FORM. 'bulk': how many values and letters a reading holds, each counted each time it is reached (what is shared counts as often as it is met; a slice's spare places count too). A statement '..UptoSaid' is the law's where the arguments, and the package variables that the reading takes, are together of bulk at most 1048576: NARROWER than '..Said'. Prove '..Said' where nothing that the law and all that it calls make is longer than what came in: it says more and counts as full. Else prove '..UptoSaid'. A law counts once. -/
mutual
def uptoBulk {H : Type} : DataW H → Nat
  | .lit (.string bytes) => bytes.length + 1
  | .lit _ => 1
  | .nil => 1
  | .ptr d => uptoBulk d + 1
  | .slice elems spare => uptoBulkAll elems + uptoBulkAll spare + 1
  | .agg parts => uptoBulkAll parts + 1
  | .iface _ d => uptoBulk d + 1
  | .map entries => uptoBulkEntries entries + 1
  | .held _ => 1
def uptoBulkAll {H : Type} : List (DataW H) → Nat
  | [] => 0
  | d :: r => uptoBulk d + uptoBulkAll r
def uptoBulkEntries {H : Type} : List (Lit × DataW H) → Nat
  | [] => 0
  | x :: r => uptoBulkEntry x + uptoBulkEntries r
def uptoBulkEntry {H : Type} : Lit × DataW H → Nat
  | (.string bytes, d) => bytes.length + uptoBulk d + 1
  | (_, d) => uptoBulk d + 1
 end
def uptoSmall : (H : Type) → List (DataW H) → Bool := fun _ ds => decide (uptoBulkAll ds ≤ 1048576)
def OpenSpec.upto (s : _root_.Go.ChangeSpec) : _root_.Go.OpenSpec := { _root_.Go.OpenSpec.ofChange s with cond := some uptoSmall }

/-- 'laws.FnExactCalm', WHERE WHAT IT READS IS OF BULK AT MOST 1048576: true; the input reads as it did. -/
def fnExactCalmUptoRow : OpenClaim := { program := "ytjbfgbgibmebfaa", sum := "f7956912cd869b2f8822b5f6e7bf902658ad9bec6dfc7d2eee2b97a9b1143d08", func := "loop.example/g00179/laws.FnExactCalm", spec := "fnExactCalm", apart := false, narrowed := true }
def FnExactCalmUptoSaid : Prop := fnExactCalmUptoRow.holds Try.pinned (OpenSpec.upto fnExactCalmSpec)

/-- 'laws.FnExactDepotNew', WHERE WHAT IT READS IS OF BULK AT MOST 1048576: true; the input reads as it did. -/
def fnExactDepotNewUptoRow : OpenClaim := { program := "ytjbfgbgibmebfaa", sum := "f7956912cd869b2f8822b5f6e7bf902658ad9bec6dfc7d2eee2b97a9b1143d08", func := "loop.example/g00179/laws.FnExactDepotNew", spec := "fnExactDepotNew", apart := false, narrowed := true }
def FnExactDepotNewUptoSaid : Prop := fnExactDepotNewUptoRow.holds Try.pinned (OpenSpec.upto fnExactDepotNewSpec)

/-- 'laws.FnExactAdvance', WHERE WHAT IT READS IS OF BULK AT MOST 1048576: true; the input reads as it did. -/
def fnExactAdvanceUptoRow : OpenClaim := { program := "ytjbfgbgibmebfaa", sum := "f7956912cd869b2f8822b5f6e7bf902658ad9bec6dfc7d2eee2b97a9b1143d08", func := "loop.example/g00179/laws.FnExactAdvance", spec := "fnExactAdvance", inPlace := ["internal/reflectlite.ValueOf", "internal/reflectlite.Swapper", "(internal/reflectlite.Value).Len"], unfollowed := true, recurses := true, apart := false, narrowed := true }
def FnExactAdvanceUptoSaid : Prop := fnExactAdvanceUptoRow.holds Try.pinned (OpenSpec.upto fnExactAdvanceSpec)

/-- 'laws.FnExactDrive', WHERE WHAT IT READS IS OF BULK AT MOST 1048576: true; the input reads as it did. -/
def fnExactDriveUptoRow : OpenClaim := { program := "ytjbfgbgibmebfaa", sum := "f7956912cd869b2f8822b5f6e7bf902658ad9bec6dfc7d2eee2b97a9b1143d08", func := "loop.example/g00179/laws.FnExactDrive", spec := "fnExactDrive", inPlace := ["internal/reflectlite.ValueOf", "internal/reflectlite.Swapper", "(internal/reflectlite.Value).Len"], unfollowed := true, recurses := true, apart := false, narrowed := true }
def FnExactDriveUptoSaid : Prop := fnExactDriveUptoRow.holds Try.pinned (OpenSpec.upto fnExactDriveSpec)

/-- 'laws.FnExactDispatch', WHERE WHAT IT READS IS OF BULK AT MOST 1048576: true; the input reads as it did. -/
def fnExactDispatchUptoRow : OpenClaim := { program := "ytjbfgbgibmebfaa", sum := "f7956912cd869b2f8822b5f6e7bf902658ad9bec6dfc7d2eee2b97a9b1143d08", func := "loop.example/g00179/laws.FnExactDispatch", spec := "fnExactDispatch", apart := false, narrowed := true }
def FnExactDispatchUptoSaid : Prop := fnExactDispatchUptoRow.holds Try.pinned (OpenSpec.upto fnExactDispatchSpec)

/-- 'laws.FnTasks', WHERE WHAT IT READS IS OF BULK AT MOST 1048576: true; the input reads as it did. -/
def fnTasksUptoRow : OpenClaim := { program := "ytjbfgbgibmebfaa", sum := "f7956912cd869b2f8822b5f6e7bf902658ad9bec6dfc7d2eee2b97a9b1143d08", func := "loop.example/g00179/laws.FnTasks", spec := "fnTasks", apart := false, narrowed := true }
def FnTasksUptoSaid : Prop := fnTasksUptoRow.holds Try.pinned (OpenSpec.upto fnTasksSpec)

/-- 'laws.FnLink', WHERE WHAT IT READS IS OF BULK AT MOST 1048576: true; the input reads as it did. -/
def fnLinkUptoRow : OpenClaim := { program := "ytjbfgbgibmebfaa", sum := "f7956912cd869b2f8822b5f6e7bf902658ad9bec6dfc7d2eee2b97a9b1143d08", func := "loop.example/g00179/laws.FnLink", spec := "fnLink", apart := false, narrowed := true }
def FnLinkUptoSaid : Prop := fnLinkUptoRow.holds Try.pinned (OpenSpec.upto fnLinkSpec)

/-- 'laws.FnSwept', WHERE WHAT IT READS IS OF BULK AT MOST 1048576: true; the input reads as it did. -/
def fnSweptUptoRow : OpenClaim := { program := "ytjbfgbgibmebfaa", sum := "f7956912cd869b2f8822b5f6e7bf902658ad9bec6dfc7d2eee2b97a9b1143d08", func := "loop.example/g00179/laws.FnSwept", spec := "fnSwept", apart := false, narrowed := true }
def FnSweptUptoSaid : Prop := fnSweptUptoRow.holds Try.pinned (OpenSpec.upto fnSweptSpec)

/-- 'laws.FnBegun', WHERE WHAT IT READS IS OF BULK AT MOST 1048576: true; the input reads as it did. -/
def fnBegunUptoRow : OpenClaim := { program := "ytjbfgbgibmebfaa", sum := "f7956912cd869b2f8822b5f6e7bf902658ad9bec6dfc7d2eee2b97a9b1143d08", func := "loop.example/g00179/laws.FnBegun", spec := "fnBegun", apart := false, narrowed := true }
def FnBegunUptoSaid : Prop := fnBegunUptoRow.holds Try.pinned (OpenSpec.upto fnBegunSpec)

/-- 'laws.FnDispatched', WHERE WHAT IT READS IS OF BULK AT MOST 1048576: true; the input reads as it did. -/
def fnDispatchedUptoRow : OpenClaim := { program := "ytjbfgbgibmebfaa", sum := "f7956912cd869b2f8822b5f6e7bf902658ad9bec6dfc7d2eee2b97a9b1143d08", func := "loop.example/g00179/laws.FnDispatched", spec := "fnDispatched", apart := false, narrowed := true }
def FnDispatchedUptoSaid : Prop := fnDispatchedUptoRow.holds Try.pinned (OpenSpec.upto fnDispatchedSpec)

end Rows
end Go.Proofs.Ytjbfgbgibmebfaa
