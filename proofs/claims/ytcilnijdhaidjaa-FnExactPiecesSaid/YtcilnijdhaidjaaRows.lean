/-
  No cell of these rows narrows 'for every input' (looked for: loops, veiled, ifaces, maps, wideKeys, modest, calm, conditions, laid).
  DERIVED. THE GIVEN ROWS OF THIS SEAT. 10 by the template 'for every input the law returns true; each argument reads behind the call as it read before'; 0 by the template 'total and deterministic' (their statements: YtcilnijdhaidjaaTotals.lean).
  GIVEN WITH THE SEED: the statements are not yours to turn. If you find one false, say at which input.
  Laid BY PROGRAM, IN A SANDBOX (cutbox-rows.mjs): the forced cells as the released guide's own fill.sh prints them over the translation 76341eaaafe1c9f0… (all of the seat's roots in one cut). By AI agents, Wed Nov 11 2026. No macro, syntax, notation, axiom, sorry.
-/
import Derived.Test.YtcilnijdhaidjaaChecked
import GoSem.Claim
import GoSem.ClaimJoined
import GoSem.ClaimMapViews
import Derived.JoinedTies
import Derived.KernelRfl
namespace Go.Proofs.Ytcilnijdhaidjaa
/- THE CELL 'sum', in the pinned program and in every row, IS THE sha256 OF THE DUMP (.gsa) THAT YtcilnijdhaidjaaProg.lean LOADS. Nothing in Lean hashes anything: it is a label: what it is worth is what the hold of that sum in a sandbox is worth. -/
noncomputable def Try.pinned : Pinned := { name := "ytcilnijdhaidjaa", sum := "76341eaaafe1c9f08079e3868e090ec5ad25084cf2d86c40ecf0b54ec8f6472a", checked := Try.checked }
namespace Rows
def none {H : Type} : Left H := { results := [], args := [] }

/-- 'laws.FnExactLinkNew': WHATEVER THE INPUT: true; the input reads as it did. -/
def fnExactLinkNewSpec : ChangeSpec := { name := "fnExactLinkNew", fn := fun _ => fun
  | [] => { results := [.lit (.bool true)], args := [] }
  | _ => none }
def fnExactLinkNewRow : OpenClaim := { program := "ytcilnijdhaidjaa", sum := "76341eaaafe1c9f08079e3868e090ec5ad25084cf2d86c40ecf0b54ec8f6472a", func := "loop.example/g00179/laws.FnExactLinkNew", spec := "fnExactLinkNew", apart := false }
def FnExactLinkNewSaid : Prop := fnExactLinkNewRow.holds Try.pinned (OpenSpec.ofChange fnExactLinkNewSpec)

/-- ITS FALSE NEIGHBOUR: 'it returns false'. Refute it at one input. -/
def fnExactLinkNewWrong : ChangeSpec := { name := "fnExactLinkNew", fn := fun _ => fun
  | [] => { results := [.lit (.bool false)], args := [] }
  | _ => none }
def FnExactLinkNewWrongFalsely : Prop := fnExactLinkNewRow.holds Try.pinned (OpenSpec.ofChange fnExactLinkNewWrong)

/-- 'laws.FnExactPicksOf': WHATEVER THE INPUT: true; the input reads as it did. -/
def fnExactPicksOfSpec : ChangeSpec := { name := "fnExactPicksOf", fn := fun _ => fun
  | [d1, d2] => { results := [.lit (.bool true)], args := [d1, d2] }
  | _ => none }
def fnExactPicksOfRow : OpenClaim := { program := "ytcilnijdhaidjaa", sum := "76341eaaafe1c9f08079e3868e090ec5ad25084cf2d86c40ecf0b54ec8f6472a", func := "loop.example/g00179/laws.FnExactPicksOf", spec := "fnExactPicksOf", apart := false }
def FnExactPicksOfSaid : Prop := fnExactPicksOfRow.holds Try.pinned (OpenSpec.ofChange fnExactPicksOfSpec)

/-- ITS FALSE NEIGHBOUR: 'it returns false'. Refute it at one input. -/
def fnExactPicksOfWrong : ChangeSpec := { name := "fnExactPicksOf", fn := fun _ => fun
  | [d1, d2] => { results := [.lit (.bool false)], args := [d1, d2] }
  | _ => none }
def FnExactPicksOfWrongFalsely : Prop := fnExactPicksOfRow.holds Try.pinned (OpenSpec.ofChange fnExactPicksOfWrong)

/-- 'laws.FnExactTasksOf': WHATEVER THE INPUT: true; the input reads as it did. -/
def fnExactTasksOfSpec : ChangeSpec := { name := "fnExactTasksOf", fn := fun _ => fun
  | [d] => { results := [.lit (.bool true)], args := [d] }
  | _ => none }
def fnExactTasksOfRow : OpenClaim := { program := "ytcilnijdhaidjaa", sum := "76341eaaafe1c9f08079e3868e090ec5ad25084cf2d86c40ecf0b54ec8f6472a", func := "loop.example/g00179/laws.FnExactTasksOf", spec := "fnExactTasksOf", apart := false }
def FnExactTasksOfSaid : Prop := fnExactTasksOfRow.holds Try.pinned (OpenSpec.ofChange fnExactTasksOfSpec)

/-- ITS FALSE NEIGHBOUR: 'it returns false'. Refute it at one input. -/
def fnExactTasksOfWrong : ChangeSpec := { name := "fnExactTasksOf", fn := fun _ => fun
  | [d] => { results := [.lit (.bool false)], args := [d] }
  | _ => none }
def FnExactTasksOfWrongFalsely : Prop := fnExactTasksOfRow.holds Try.pinned (OpenSpec.ofChange fnExactTasksOfWrong)

/-- 'laws.FnExactTell': WHATEVER THE INPUT: true; the input reads as it did. -/
def fnExactTellSpec : ChangeSpec := { name := "fnExactTell", fn := fun _ => fun
  | [d1, d2] => { results := [.lit (.bool true)], args := [d1, d2] }
  | _ => none }
def fnExactTellRow : OpenClaim := { program := "ytcilnijdhaidjaa", sum := "76341eaaafe1c9f08079e3868e090ec5ad25084cf2d86c40ecf0b54ec8f6472a", func := "loop.example/g00179/laws.FnExactTell", spec := "fnExactTell", apart := false }
def FnExactTellSaid : Prop := fnExactTellRow.holds Try.pinned (OpenSpec.ofChange fnExactTellSpec)

/-- ITS FALSE NEIGHBOUR: 'it returns false'. Refute it at one input. -/
def fnExactTellWrong : ChangeSpec := { name := "fnExactTell", fn := fun _ => fun
  | [d1, d2] => { results := [.lit (.bool false)], args := [d1, d2] }
  | _ => none }
def FnExactTellWrongFalsely : Prop := fnExactTellRow.holds Try.pinned (OpenSpec.ofChange fnExactTellWrong)

/-- 'laws.FnExactOrderOf': WHATEVER THE INPUT: true; the input reads as it did. -/
def fnExactOrderOfSpec : ChangeSpec := { name := "fnExactOrderOf", fn := fun _ => fun
  | [d1, d2] => { results := [.lit (.bool true)], args := [d1, d2] }
  | _ => none }
def fnExactOrderOfRow : OpenClaim := { program := "ytcilnijdhaidjaa", sum := "76341eaaafe1c9f08079e3868e090ec5ad25084cf2d86c40ecf0b54ec8f6472a", func := "loop.example/g00179/laws.FnExactOrderOf", spec := "fnExactOrderOf", apart := false }
def FnExactOrderOfSaid : Prop := fnExactOrderOfRow.holds Try.pinned (OpenSpec.ofChange fnExactOrderOfSpec)

/-- ITS FALSE NEIGHBOUR: 'it returns false'. Refute it at one input. -/
def fnExactOrderOfWrong : ChangeSpec := { name := "fnExactOrderOf", fn := fun _ => fun
  | [d1, d2] => { results := [.lit (.bool false)], args := [d1, d2] }
  | _ => none }
def FnExactOrderOfWrongFalsely : Prop := fnExactOrderOfRow.holds Try.pinned (OpenSpec.ofChange fnExactOrderOfWrong)

/-- 'laws.FnExactLinkDo': WHATEVER THE INPUT: true; the input reads as it did. -/
def fnExactLinkDoSpec : ChangeSpec := { name := "fnExactLinkDo", fn := fun _ => fun
  | [d1, d2, d3] => { results := [.lit (.bool true)], args := [d1, d2, d3] }
  | _ => none }
def fnExactLinkDoRow : OpenClaim := { program := "ytcilnijdhaidjaa", sum := "76341eaaafe1c9f08079e3868e090ec5ad25084cf2d86c40ecf0b54ec8f6472a", func := "loop.example/g00179/laws.FnExactLinkDo", spec := "fnExactLinkDo", apart := false }
def FnExactLinkDoSaid : Prop := fnExactLinkDoRow.holds Try.pinned (OpenSpec.ofChange fnExactLinkDoSpec)

/-- ITS FALSE NEIGHBOUR: 'it returns false'. Refute it at one input. -/
def fnExactLinkDoWrong : ChangeSpec := { name := "fnExactLinkDo", fn := fun _ => fun
  | [d1, d2, d3] => { results := [.lit (.bool false)], args := [d1, d2, d3] }
  | _ => none }
def FnExactLinkDoWrongFalsely : Prop := fnExactLinkDoRow.holds Try.pinned (OpenSpec.ofChange fnExactLinkDoWrong)

/-- 'laws.FnExactIdle': WHATEVER THE INPUT: true; the input reads as it did. -/
def fnExactIdleSpec : ChangeSpec := { name := "fnExactIdle", fn := fun _ => fun
  | [d] => { results := [.lit (.bool true)], args := [d] }
  | _ => none }
def fnExactIdleRow : OpenClaim := { program := "ytcilnijdhaidjaa", sum := "76341eaaafe1c9f08079e3868e090ec5ad25084cf2d86c40ecf0b54ec8f6472a", func := "loop.example/g00179/laws.FnExactIdle", spec := "fnExactIdle", apart := false }
def FnExactIdleSaid : Prop := fnExactIdleRow.holds Try.pinned (OpenSpec.ofChange fnExactIdleSpec)

/-- ITS FALSE NEIGHBOUR: 'it returns false'. Refute it at one input. -/
def fnExactIdleWrong : ChangeSpec := { name := "fnExactIdle", fn := fun _ => fun
  | [d] => { results := [.lit (.bool false)], args := [d] }
  | _ => none }
def FnExactIdleWrongFalsely : Prop := fnExactIdleRow.holds Try.pinned (OpenSpec.ofChange fnExactIdleWrong)

/-- 'laws.FnExactDone': WHATEVER THE INPUT: true; the input reads as it did. -/
def fnExactDoneSpec : ChangeSpec := { name := "fnExactDone", fn := fun _ => fun
  | [d] => { results := [.lit (.bool true)], args := [d] }
  | _ => none }
def fnExactDoneRow : OpenClaim := { program := "ytcilnijdhaidjaa", sum := "76341eaaafe1c9f08079e3868e090ec5ad25084cf2d86c40ecf0b54ec8f6472a", func := "loop.example/g00179/laws.FnExactDone", spec := "fnExactDone", apart := false }
def FnExactDoneSaid : Prop := fnExactDoneRow.holds Try.pinned (OpenSpec.ofChange fnExactDoneSpec)

/-- ITS FALSE NEIGHBOUR: 'it returns false'. Refute it at one input. -/
def fnExactDoneWrong : ChangeSpec := { name := "fnExactDone", fn := fun _ => fun
  | [d] => { results := [.lit (.bool false)], args := [d] }
  | _ => none }
def FnExactDoneWrongFalsely : Prop := fnExactDoneRow.holds Try.pinned (OpenSpec.ofChange fnExactDoneWrong)

/-- 'laws.FnExactPlaces': WHATEVER THE INPUT: true; the input reads as it did. -/
def fnExactPlacesSpec : ChangeSpec := { name := "fnExactPlaces", fn := fun _ => fun
  | [d] => { results := [.lit (.bool true)], args := [d] }
  | _ => none }
def fnExactPlacesRow : OpenClaim := { program := "ytcilnijdhaidjaa", sum := "76341eaaafe1c9f08079e3868e090ec5ad25084cf2d86c40ecf0b54ec8f6472a", func := "loop.example/g00179/laws.FnExactPlaces", spec := "fnExactPlaces", apart := false }
def FnExactPlacesSaid : Prop := fnExactPlacesRow.holds Try.pinned (OpenSpec.ofChange fnExactPlacesSpec)

/-- ITS FALSE NEIGHBOUR: 'it returns false'. Refute it at one input. -/
def fnExactPlacesWrong : ChangeSpec := { name := "fnExactPlaces", fn := fun _ => fun
  | [d] => { results := [.lit (.bool false)], args := [d] }
  | _ => none }
def FnExactPlacesWrongFalsely : Prop := fnExactPlacesRow.holds Try.pinned (OpenSpec.ofChange fnExactPlacesWrong)

/-- 'laws.FnExactPieces': WHATEVER THE INPUT: true; the input reads as it did. -/
def fnExactPiecesSpec : ChangeSpec := { name := "fnExactPieces", fn := fun _ => fun
  | [d] => { results := [.lit (.bool true)], args := [d] }
  | _ => none }
def fnExactPiecesRow : OpenClaim := { program := "ytcilnijdhaidjaa", sum := "76341eaaafe1c9f08079e3868e090ec5ad25084cf2d86c40ecf0b54ec8f6472a", func := "loop.example/g00179/laws.FnExactPieces", spec := "fnExactPieces", apart := false }
def FnExactPiecesSaid : Prop := fnExactPiecesRow.holds Try.pinned (OpenSpec.ofChange fnExactPiecesSpec)

/-- ITS FALSE NEIGHBOUR: 'it returns false'. Refute it at one input. -/
def fnExactPiecesWrong : ChangeSpec := { name := "fnExactPieces", fn := fun _ => fun
  | [d] => { results := [.lit (.bool false)], args := [d] }
  | _ => none }
def FnExactPiecesWrongFalsely : Prop := fnExactPiecesRow.holds Try.pinned (OpenSpec.ofChange fnExactPiecesWrong)

/- THE SECOND FORM. 'bulk': how many values and letters a reading holds, each counted each time it is reached (what is shared counts as often as it is met; a slice's spare places count too). A statement '..UptoSaid' is the law's where the arguments, and the package variables that the reading takes, are together of bulk at most 1048576: NARROWER than '..Said'. Prove '..Said' where nothing that the law and all that it calls make is longer than what came in: it says more and counts as full. Else prove '..UptoSaid'. A law counts once. -/
mutual
def uptoBulk {H : Type} : DataW H → Nat
  | .lit (.string bytes) => bytes.length + 1
  | .lit _ => 1
  | .nil => 1
  | .ptr d => uptoBulk d + 1
  | .slice elems spare => uptoBulkAll elems + uptoBulkAll spare + 1
  | .agg parts => uptoBulkAll parts + 1
  | .iface _ d => uptoBulk d + 1
  | .map entries => uptoBulkEntries entries + 1
  | .held _ => 1
def uptoBulkAll {H : Type} : List (DataW H) → Nat
  | [] => 0
  | d :: r => uptoBulk d + uptoBulkAll r
def uptoBulkEntries {H : Type} : List (Lit × DataW H) → Nat
  | [] => 0
  | x :: r => uptoBulkEntry x + uptoBulkEntries r
def uptoBulkEntry {H : Type} : Lit × DataW H → Nat
  | (.string bytes, d) => bytes.length + uptoBulk d + 1
  | (_, d) => uptoBulk d + 1
 end
def uptoSmall : (H : Type) → List (DataW H) → Bool := fun _ ds => decide (uptoBulkAll ds ≤ 1048576)
def OpenSpec.upto (s : _root_.Go.ChangeSpec) : _root_.Go.OpenSpec := { _root_.Go.OpenSpec.ofChange s with cond := some uptoSmall }

/-- 'laws.FnExactLinkNew', WHERE WHAT IT READS IS OF BULK AT MOST 1048576: true; the input reads as it did. -/
def fnExactLinkNewUptoRow : OpenClaim := { program := "ytcilnijdhaidjaa", sum := "76341eaaafe1c9f08079e3868e090ec5ad25084cf2d86c40ecf0b54ec8f6472a", func := "loop.example/g00179/laws.FnExactLinkNew", spec := "fnExactLinkNew", apart := false, narrowed := true }
def FnExactLinkNewUptoSaid : Prop := fnExactLinkNewUptoRow.holds Try.pinned (OpenSpec.upto fnExactLinkNewSpec)

/-- 'laws.FnExactPicksOf', WHERE WHAT IT READS IS OF BULK AT MOST 1048576: true; the input reads as it did. -/
def fnExactPicksOfUptoRow : OpenClaim := { program := "ytcilnijdhaidjaa", sum := "76341eaaafe1c9f08079e3868e090ec5ad25084cf2d86c40ecf0b54ec8f6472a", func := "loop.example/g00179/laws.FnExactPicksOf", spec := "fnExactPicksOf", apart := false, narrowed := true }
def FnExactPicksOfUptoSaid : Prop := fnExactPicksOfUptoRow.holds Try.pinned (OpenSpec.upto fnExactPicksOfSpec)

/-- 'laws.FnExactTasksOf', WHERE WHAT IT READS IS OF BULK AT MOST 1048576: true; the input reads as it did. -/
def fnExactTasksOfUptoRow : OpenClaim := { program := "ytcilnijdhaidjaa", sum := "76341eaaafe1c9f08079e3868e090ec5ad25084cf2d86c40ecf0b54ec8f6472a", func := "loop.example/g00179/laws.FnExactTasksOf", spec := "fnExactTasksOf", apart := false, narrowed := true }
def FnExactTasksOfUptoSaid : Prop := fnExactTasksOfUptoRow.holds Try.pinned (OpenSpec.upto fnExactTasksOfSpec)

/-- 'laws.FnExactTell', WHERE WHAT IT READS IS OF BULK AT MOST 1048576: true; the input reads as it did. -/
def fnExactTellUptoRow : OpenClaim := { program := "ytcilnijdhaidjaa", sum := "76341eaaafe1c9f08079e3868e090ec5ad25084cf2d86c40ecf0b54ec8f6472a", func := "loop.example/g00179/laws.FnExactTell", spec := "fnExactTell", apart := false, narrowed := true }
def FnExactTellUptoSaid : Prop := fnExactTellUptoRow.holds Try.pinned (OpenSpec.upto fnExactTellSpec)

/-- 'laws.FnExactOrderOf', WHERE WHAT IT READS IS OF BULK AT MOST 1048576: true; the input reads as it did. -/
def fnExactOrderOfUptoRow : OpenClaim := { program := "ytcilnijdhaidjaa", sum := "76341eaaafe1c9f08079e3868e090ec5ad25084cf2d86c40ecf0b54ec8f6472a", func := "loop.example/g00179/laws.FnExactOrderOf", spec := "fnExactOrderOf", apart := false, narrowed := true }
def FnExactOrderOfUptoSaid : Prop := fnExactOrderOfUptoRow.holds Try.pinned (OpenSpec.upto fnExactOrderOfSpec)

/-- 'laws.FnExactLinkDo', WHERE WHAT IT READS IS OF BULK AT MOST 1048576: true; the input reads as it did. -/
def fnExactLinkDoUptoRow : OpenClaim := { program := "ytcilnijdhaidjaa", sum := "76341eaaafe1c9f08079e3868e090ec5ad25084cf2d86c40ecf0b54ec8f6472a", func := "loop.example/g00179/laws.FnExactLinkDo", spec := "fnExactLinkDo", apart := false, narrowed := true }
def FnExactLinkDoUptoSaid : Prop := fnExactLinkDoUptoRow.holds Try.pinned (OpenSpec.upto fnExactLinkDoSpec)

/-- 'laws.FnExactIdle', WHERE WHAT IT READS IS OF BULK AT MOST 1048576: true; the input reads as it did. -/
def fnExactIdleUptoRow : OpenClaim := { program := "ytcilnijdhaidjaa", sum := "76341eaaafe1c9f08079e3868e090ec5ad25084cf2d86c40ecf0b54ec8f6472a", func := "loop.example/g00179/laws.FnExactIdle", spec := "fnExactIdle", apart := false, narrowed := true }
def FnExactIdleUptoSaid : Prop := fnExactIdleUptoRow.holds Try.pinned (OpenSpec.upto fnExactIdleSpec)

/-- 'laws.FnExactDone', WHERE WHAT IT READS IS OF BULK AT MOST 1048576: true; the input reads as it did. -/
def fnExactDoneUptoRow : OpenClaim := { program := "ytcilnijdhaidjaa", sum := "76341eaaafe1c9f08079e3868e090ec5ad25084cf2d86c40ecf0b54ec8f6472a", func := "loop.example/g00179/laws.FnExactDone", spec := "fnExactDone", apart := false, narrowed := true }
def FnExactDoneUptoSaid : Prop := fnExactDoneUptoRow.holds Try.pinned (OpenSpec.upto fnExactDoneSpec)

/-- 'laws.FnExactPlaces', WHERE WHAT IT READS IS OF BULK AT MOST 1048576: true; the input reads as it did. -/
def fnExactPlacesUptoRow : OpenClaim := { program := "ytcilnijdhaidjaa", sum := "76341eaaafe1c9f08079e3868e090ec5ad25084cf2d86c40ecf0b54ec8f6472a", func := "loop.example/g00179/laws.FnExactPlaces", spec := "fnExactPlaces", apart := false, narrowed := true }
def FnExactPlacesUptoSaid : Prop := fnExactPlacesUptoRow.holds Try.pinned (OpenSpec.upto fnExactPlacesSpec)

/-- 'laws.FnExactPieces', WHERE WHAT IT READS IS OF BULK AT MOST 1048576: true; the input reads as it did. -/
def fnExactPiecesUptoRow : OpenClaim := { program := "ytcilnijdhaidjaa", sum := "76341eaaafe1c9f08079e3868e090ec5ad25084cf2d86c40ecf0b54ec8f6472a", func := "loop.example/g00179/laws.FnExactPieces", spec := "fnExactPieces", apart := false, narrowed := true }
def FnExactPiecesUptoSaid : Prop := fnExactPiecesUptoRow.holds Try.pinned (OpenSpec.upto fnExactPiecesSpec)

end Rows
end Go.Proofs.Ytcilnijdhaidjaa
