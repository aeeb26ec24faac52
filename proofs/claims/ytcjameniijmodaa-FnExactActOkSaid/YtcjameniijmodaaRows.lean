/-
  No cell of these rows narrows 'for every input' (looked for: loops, veiled, ifaces, maps, wideKeys, modest, calm, conditions, laid).
  DERIVED. THE GIVEN ROWS OF THIS SEAT. 7 by the template 'for every input the law returns true; each argument reads behind the call as it read before'; 0 by the template 'total and deterministic' (their statements: YtcjameniijmodaaTotals.lean).
  GIVEN WITH THE SEED: the statements are not yours to turn. If you find one false, say at which input.
  Laid BY PROGRAM, IN A SANDBOX (cutbox-rows.mjs): the forced cells as the released guide's own fill.sh prints them over the translation b9423dce1ba24ec8… (all of the seat's roots in one cut). By AI agents, Wed Nov 11 2026. No macro, syntax, notation, axiom, sorry.
-/
import Derived.Test.YtcjameniijmodaaChecked
import GoSem.Claim
import GoSem.ClaimJoined
import GoSem.ClaimMapViews
import Derived.JoinedTies
import Derived.KernelRfl
namespace Go.Proofs.Ytcjameniijmodaa
/- THE CELL 'sum', in the pinned program and in every row, IS THE sha256 OF THE DUMP (.gsa) THAT YtcjameniijmodaaProg.lean LOADS. Nothing in Lean hashes anything: it is a label: what it is worth is what the hold of that sum in a sandbox is worth. -/
noncomputable def Try.pinned : Pinned := { name := "ytcjameniijmodaa", sum := "b9423dce1ba24ec8b1ca92687826eb9d66428e07472fbc0402d0d2a84cba14ca", checked := Try.checked }
namespace Rows
def none {H : Type} : Left H := { results := [], args := [] }

/-- 'laws.FnExactCheckOf': WHATEVER THE INPUT: true; the input reads as it did. -/
def fnExactCheckOfSpec : ChangeSpec := { name := "fnExactCheckOf", fn := fun _ => fun
  | [d] => { results := [.lit (.bool true)], args := [d] }
  | _ => none }
def fnExactCheckOfRow : OpenClaim := { program := "ytcjameniijmodaa", sum := "b9423dce1ba24ec8b1ca92687826eb9d66428e07472fbc0402d0d2a84cba14ca", func := "loop.example/g00179/laws.FnExactCheckOf", spec := "fnExactCheckOf", apart := false }
def FnExactCheckOfSaid : Prop := fnExactCheckOfRow.holds Try.pinned (OpenSpec.ofChange fnExactCheckOfSpec)

/-- ITS FALSE NEIGHBOUR: 'it returns false'. Refute it at one input. -/
def fnExactCheckOfWrong : ChangeSpec := { name := "fnExactCheckOf", fn := fun _ => fun
  | [d] => { results := [.lit (.bool false)], args := [d] }
  | _ => none }
def FnExactCheckOfWrongFalsely : Prop := fnExactCheckOfRow.holds Try.pinned (OpenSpec.ofChange fnExactCheckOfWrong)

/-- 'laws.FnExactTasksOk': WHATEVER THE INPUT: true; the input reads as it did. -/
def fnExactTasksOkSpec : ChangeSpec := { name := "fnExactTasksOk", fn := fun _ => fun
  | [d] => { results := [.lit (.bool true)], args := [d] }
  | _ => none }
def fnExactTasksOkRow : OpenClaim := { program := "ytcjameniijmodaa", sum := "b9423dce1ba24ec8b1ca92687826eb9d66428e07472fbc0402d0d2a84cba14ca", func := "loop.example/g00179/laws.FnExactTasksOk", spec := "fnExactTasksOk", apart := false }
def FnExactTasksOkSaid : Prop := fnExactTasksOkRow.holds Try.pinned (OpenSpec.ofChange fnExactTasksOkSpec)

/-- ITS FALSE NEIGHBOUR: 'it returns false'. Refute it at one input. -/
def fnExactTasksOkWrong : ChangeSpec := { name := "fnExactTasksOk", fn := fun _ => fun
  | [d] => { results := [.lit (.bool false)], args := [d] }
  | _ => none }
def FnExactTasksOkWrongFalsely : Prop := fnExactTasksOkRow.holds Try.pinned (OpenSpec.ofChange fnExactTasksOkWrong)

/-- 'laws.FnExactLinkNew': WHATEVER THE INPUT: true; the input reads as it did. -/
def fnExactLinkNewSpec : ChangeSpec := { name := "fnExactLinkNew", fn := fun _ => fun
  | [] => { results := [.lit (.bool true)], args := [] }
  | _ => none }
def fnExactLinkNewRow : OpenClaim := { program := "ytcjameniijmodaa", sum := "b9423dce1ba24ec8b1ca92687826eb9d66428e07472fbc0402d0d2a84cba14ca", func := "loop.example/g00179/laws.FnExactLinkNew", spec := "fnExactLinkNew", apart := false }
def FnExactLinkNewSaid : Prop := fnExactLinkNewRow.holds Try.pinned (OpenSpec.ofChange fnExactLinkNewSpec)

/-- ITS FALSE NEIGHBOUR: 'it returns false'. Refute it at one input. -/
def fnExactLinkNewWrong : ChangeSpec := { name := "fnExactLinkNew", fn := fun _ => fun
  | [] => { results := [.lit (.bool false)], args := [] }
  | _ => none }
def FnExactLinkNewWrongFalsely : Prop := fnExactLinkNewRow.holds Try.pinned (OpenSpec.ofChange fnExactLinkNewWrong)

/-- 'laws.FnExactActOk': WHATEVER THE INPUT: true; the input reads as it did. -/
def fnExactActOkSpec : ChangeSpec := { name := "fnExactActOk", fn := fun _ => fun
  | [d] => { results := [.lit (.bool true)], args := [d] }
  | _ => none }
def fnExactActOkRow : OpenClaim := { program := "ytcjameniijmodaa", sum := "b9423dce1ba24ec8b1ca92687826eb9d66428e07472fbc0402d0d2a84cba14ca", func := "loop.example/g00179/laws.FnExactActOk", spec := "fnExactActOk", apart := false }
def FnExactActOkSaid : Prop := fnExactActOkRow.holds Try.pinned (OpenSpec.ofChange fnExactActOkSpec)

/-- ITS FALSE NEIGHBOUR: 'it returns false'. Refute it at one input. -/
def fnExactActOkWrong : ChangeSpec := { name := "fnExactActOk", fn := fun _ => fun
  | [d] => { results := [.lit (.bool false)], args := [d] }
  | _ => none }
def FnExactActOkWrongFalsely : Prop := fnExactActOkRow.holds Try.pinned (OpenSpec.ofChange fnExactActOkWrong)

/-- 'laws.FnExactLinkOk': WHATEVER THE INPUT: true; the input reads as it did. -/
def fnExactLinkOkSpec : ChangeSpec := { name := "fnExactLinkOk", fn := fun _ => fun
  | [d] => { results := [.lit (.bool true)], args := [d] }
  | _ => none }
def fnExactLinkOkRow : OpenClaim := { program := "ytcjameniijmodaa", sum := "b9423dce1ba24ec8b1ca92687826eb9d66428e07472fbc0402d0d2a84cba14ca", func := "loop.example/g00179/laws.FnExactLinkOk", spec := "fnExactLinkOk", apart := false }
def FnExactLinkOkSaid : Prop := fnExactLinkOkRow.holds Try.pinned (OpenSpec.ofChange fnExactLinkOkSpec)

/-- ITS FALSE NEIGHBOUR: 'it returns false'. Refute it at one input. -/
def fnExactLinkOkWrong : ChangeSpec := { name := "fnExactLinkOk", fn := fun _ => fun
  | [d] => { results := [.lit (.bool false)], args := [d] }
  | _ => none }
def FnExactLinkOkWrongFalsely : Prop := fnExactLinkOkRow.holds Try.pinned (OpenSpec.ofChange fnExactLinkOkWrong)

/-- 'laws.FnExactPicksOf': WHATEVER THE INPUT: true; the input reads as it did. -/
def fnExactPicksOfSpec : ChangeSpec := { name := "fnExactPicksOf", fn := fun _ => fun
  | [d1, d2] => { results := [.lit (.bool true)], args := [d1, d2] }
  | _ => none }
def fnExactPicksOfRow : OpenClaim := { program := "ytcjameniijmodaa", sum := "b9423dce1ba24ec8b1ca92687826eb9d66428e07472fbc0402d0d2a84cba14ca", func := "loop.example/g00179/laws.FnExactPicksOf", spec := "fnExactPicksOf", apart := false }
def FnExactPicksOfSaid : Prop := fnExactPicksOfRow.holds Try.pinned (OpenSpec.ofChange fnExactPicksOfSpec)

/-- ITS FALSE NEIGHBOUR: 'it returns false'. Refute it at one input. -/
def fnExactPicksOfWrong : ChangeSpec := { name := "fnExactPicksOf", fn := fun _ => fun
  | [d1, d2] => { results := [.lit (.bool false)], args := [d1, d2] }
  | _ => none }
def FnExactPicksOfWrongFalsely : Prop := fnExactPicksOfRow.holds Try.pinned (OpenSpec.ofChange fnExactPicksOfWrong)

/-- 'laws.FnExactTasksOf': WHATEVER THE INPUT: true; the input reads as it did. -/
def fnExactTasksOfSpec : ChangeSpec := { name := "fnExactTasksOf", fn := fun _ => fun
  | [d] => { results := [.lit (.bool true)], args := [d] }
  | _ => none }
def fnExactTasksOfRow : OpenClaim := { program := "ytcjameniijmodaa", sum := "b9423dce1ba24ec8b1ca92687826eb9d66428e07472fbc0402d0d2a84cba14ca", func := "loop.example/g00179/laws.FnExactTasksOf", spec := "fnExactTasksOf", apart := false }
def FnExactTasksOfSaid : Prop := fnExactTasksOfRow.holds Try.pinned (OpenSpec.ofChange fnExactTasksOfSpec)

/-- ITS FALSE NEIGHBOUR: 'it returns false'. Refute it at one input. -/
def fnExactTasksOfWrong : ChangeSpec := { name := "fnExactTasksOf", fn := fun _ => fun
  | [d] => { results := [.lit (.bool false)], args := [d] }
  | _ => none }
def FnExactTasksOfWrongFalsely : Prop := fnExactTasksOfRow.holds Try.pinned (OpenSpec.ofChange fnExactTasksOfWrong)

/- THE SECOND FORM. 'bulk': how many values and letters a reading holds, each counted each time it is reached (what is shared counts as often as it is met; a slice's spare places count too). A statement '..UptoSaid' is the law's where the arguments, and the package variables that the reading takes, are together of bulk at most 1048576: NARROWER than '..Said'. Prove '..Said' where nothing that the law and all that it calls make is longer than what came in: it says more and counts as full. Else prove '..UptoSaid'. A law counts once. -/
mutual
def uptoBulk {H : Type} : DataW H → Nat
  | .lit (.string bytes) => bytes.length + 1
  | .lit _ => 1
  | .nil => 1
  | .ptr d => uptoBulk d + 1
  | .slice elems spare => uptoBulkAll elems + uptoBulkAll spare + 1
  | .agg parts => uptoBulkAll parts + 1
  | .iface _ d => uptoBulk d + 1
  | .map entries => uptoBulkEntries entries + 1
  | .held _ => 1
def uptoBulkAll {H : Type} : List (DataW H) → Nat
  | [] => 0
  | d :: r => uptoBulk d + uptoBulkAll r
def uptoBulkEntries {H : Type} : List (Lit × DataW H) → Nat
  | [] => 0
  | x :: r => uptoBulkEntry x + uptoBulkEntries r
def uptoBulkEntry {H : Type} : Lit × DataW H → Nat
  | (.string bytes, d) => bytes.length + uptoBulk d + 1
  | (_, d) => uptoBulk d + 1
 end
def uptoSmall : (H : Type) → List (DataW H) → Bool := fun _ ds => decide (uptoBulkAll ds ≤ 1048576)
def OpenSpec.upto (s : _root_.Go.ChangeSpec) : _root_.Go.OpenSpec := { _root_.Go.OpenSpec.ofChange s with cond := some uptoSmall }

/-- 'laws.FnExactCheckOf', WHERE WHAT IT READS IS OF BULK AT MOST 1048576: true; the input reads as it did. -/
def fnExactCheckOfUptoRow : OpenClaim := { program := "ytcjameniijmodaa", sum := "b9423dce1ba24ec8b1ca92687826eb9d66428e07472fbc0402d0d2a84cba14ca", func := "loop.example/g00179/laws.FnExactCheckOf", spec := "fnExactCheckOf", apart := false, narrowed := true }
def FnExactCheckOfUptoSaid : Prop := fnExactCheckOfUptoRow.holds Try.pinned (OpenSpec.upto fnExactCheckOfSpec)

/-- 'laws.FnExactTasksOk', WHERE WHAT IT READS IS OF BULK AT MOST 1048576: true; the input reads as it did. -/
def fnExactTasksOkUptoRow : OpenClaim := { program := "ytcjameniijmodaa", sum := "b9423dce1ba24ec8b1ca92687826eb9d66428e07472fbc0402d0d2a84cba14ca", func := "loop.example/g00179/laws.FnExactTasksOk", spec := "fnExactTasksOk", apart := false, narrowed := true }
def FnExactTasksOkUptoSaid : Prop := fnExactTasksOkUptoRow.holds Try.pinned (OpenSpec.upto fnExactTasksOkSpec)

/-- 'laws.FnExactLinkNew', WHERE WHAT IT READS IS OF BULK AT MOST 1048576: true; the input reads as it did. -/
def fnExactLinkNewUptoRow : OpenClaim := { program := "ytcjameniijmodaa", sum := "b9423dce1ba24ec8b1ca92687826eb9d66428e07472fbc0402d0d2a84cba14ca", func := "loop.example/g00179/laws.FnExactLinkNew", spec := "fnExactLinkNew", apart := false, narrowed := true }
def FnExactLinkNewUptoSaid : Prop := fnExactLinkNewUptoRow.holds Try.pinned (OpenSpec.upto fnExactLinkNewSpec)

/-- 'laws.FnExactActOk', WHERE WHAT IT READS IS OF BULK AT MOST 1048576: true; the input reads as it did. -/
def fnExactActOkUptoRow : OpenClaim := { program := "ytcjameniijmodaa", sum := "b9423dce1ba24ec8b1ca92687826eb9d66428e07472fbc0402d0d2a84cba14ca", func := "loop.example/g00179/laws.FnExactActOk", spec := "fnExactActOk", apart := false, narrowed := true }
def FnExactActOkUptoSaid : Prop := fnExactActOkUptoRow.holds Try.pinned (OpenSpec.upto fnExactActOkSpec)

/-- 'laws.FnExactLinkOk', WHERE WHAT IT READS IS OF BULK AT MOST 1048576: true; the input reads as it did. -/
def fnExactLinkOkUptoRow : OpenClaim := { program := "ytcjameniijmodaa", sum := "b9423dce1ba24ec8b1ca92687826eb9d66428e07472fbc0402d0d2a84cba14ca", func := "loop.example/g00179/laws.FnExactLinkOk", spec := "fnExactLinkOk", apart := false, narrowed := true }
def FnExactLinkOkUptoSaid : Prop := fnExactLinkOkUptoRow.holds Try.pinned (OpenSpec.upto fnExactLinkOkSpec)

/-- 'laws.FnExactPicksOf', WHERE WHAT IT READS IS OF BULK AT MOST 1048576: true; the input reads as it did. -/
def fnExactPicksOfUptoRow : OpenClaim := { program := "ytcjameniijmodaa", sum := "b9423dce1ba24ec8b1ca92687826eb9d66428e07472fbc0402d0d2a84cba14ca", func := "loop.example/g00179/laws.FnExactPicksOf", spec := "fnExactPicksOf", apart := false, narrowed := true }
def FnExactPicksOfUptoSaid : Prop := fnExactPicksOfUptoRow.holds Try.pinned (OpenSpec.upto fnExactPicksOfSpec)

/-- 'laws.FnExactTasksOf', WHERE WHAT IT READS IS OF BULK AT MOST 1048576: true; the input reads as it did. -/
def fnExactTasksOfUptoRow : OpenClaim := { program := "ytcjameniijmodaa", sum := "b9423dce1ba24ec8b1ca92687826eb9d66428e07472fbc0402d0d2a84cba14ca", func := "loop.example/g00179/laws.FnExactTasksOf", spec := "fnExactTasksOf", apart := false, narrowed := true }
def FnExactTasksOfUptoSaid : Prop := fnExactTasksOfUptoRow.holds Try.pinned (OpenSpec.upto fnExactTasksOfSpec)

end Rows
end Go.Proofs.Ytcjameniijmodaa
