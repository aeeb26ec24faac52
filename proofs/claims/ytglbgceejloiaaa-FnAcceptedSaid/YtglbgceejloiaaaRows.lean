/-
  No cell of these rows narrows 'for every input' (looked for: loops, veiled, ifaces, maps, wideKeys, modest, calm, conditions, laid).
  DERIVED. THE GIVEN ROWS OF THIS SEAT. 4 by the template 'for every input the law returns true; each argument reads behind the call as it read before'; 0 by the template 'total and deterministic' (their statements: YtglbgceejloiaaaTotals.lean).
  GIVEN WITH THE SEED: the statements are not yours to turn. If you find one false, say at which input.
  Laid BY PROGRAM, IN A SANDBOX (cutbox-rows.mjs): the forced cells as the released guide's own fill.sh prints them over the translation 2ca2b906b58cc17c… (all of the seat's roots in one cut). By AI agents, Wed Nov 11 2026. No macro, syntax, notation, axiom, sorry.
-/
import Derived.Test.YtglbgceejloiaaaChecked
import GoSem.Claim
import GoSem.ClaimJoined
import GoSem.ClaimMapViews
import Derived.JoinedTies
import Derived.KernelRfl
namespace Go.Proofs.Ytglbgceejloiaaa
/- THE CELL 'sum', in the pinned program and in every row, IS THE sha256 OF THE DUMP (.gsa) THAT YtglbgceejloiaaaProg.lean LOADS. Nothing in Lean hashes anything: it is a label: what it is worth is what the hold of that sum in a sandbox is worth. -/
noncomputable def Try.pinned : Pinned := { name := "ytglbgceejloiaaa", sum := "2ca2b906b58cc17c0aa3f0f2bbc4f334f8373d3dcc801cb3a5d93e04b8deefd8", checked := Try.checked }
namespace Rows
def none {H : Type} : Left H := { results := [], args := [] }

/-- 'laws.FnBegun': WHATEVER THE INPUT: true; the input reads as it did. -/
def fnBegunSpec : ChangeSpec := { name := "fnBegun", fn := fun _ => fun
  | [d] => { results := [.lit (.bool true)], args := [d] }
  | _ => none }
def fnBegunRow : OpenClaim := { program := "ytglbgceejloiaaa", sum := "2ca2b906b58cc17c0aa3f0f2bbc4f334f8373d3dcc801cb3a5d93e04b8deefd8", func := "loop.example/g00179/laws.FnBegun", spec := "fnBegun", apart := false }
def FnBegunSaid : Prop := fnBegunRow.holds Try.pinned (OpenSpec.ofChange fnBegunSpec)

/-- ITS FALSE NEIGHBOUR: 'it returns false'. Refute it at one input. -/
def fnBegunWrong : ChangeSpec := { name := "fnBegun", fn := fun _ => fun
  | [d] => { results := [.lit (.bool false)], args := [d] }
  | _ => none }
def FnBegunWrongFalsely : Prop := fnBegunRow.holds Try.pinned (OpenSpec.ofChange fnBegunWrong)

/-- 'laws.FnAccepted': WHATEVER THE INPUT: true; the input reads as it did. -/
def fnAcceptedSpec : ChangeSpec := { name := "fnAccepted", fn := fun _ => fun
  | [d] => { results := [.lit (.bool true)], args := [d] }
  | _ => none }
def fnAcceptedRow : OpenClaim := { program := "ytglbgceejloiaaa", sum := "2ca2b906b58cc17c0aa3f0f2bbc4f334f8373d3dcc801cb3a5d93e04b8deefd8", func := "loop.example/g00179/laws.FnAccepted", spec := "fnAccepted", unfollowed := true, recurses := true, apart := false }
def FnAcceptedSaid : Prop := fnAcceptedRow.holds Try.pinned (OpenSpec.ofChange fnAcceptedSpec)

/-- ITS FALSE NEIGHBOUR: 'it returns false'. Refute it at one input. -/
def fnAcceptedWrong : ChangeSpec := { name := "fnAccepted", fn := fun _ => fun
  | [d] => { results := [.lit (.bool false)], args := [d] }
  | _ => none }
def FnAcceptedWrongFalsely : Prop := fnAcceptedRow.holds Try.pinned (OpenSpec.ofChange fnAcceptedWrong)

/-- 'laws.FnDispatched': WHATEVER THE INPUT: true; the input reads as it did. -/
def fnDispatchedSpec : ChangeSpec := { name := "fnDispatched", fn := fun _ => fun
  | [d] => { results := [.lit (.bool true)], args := [d] }
  | _ => none }
def fnDispatchedRow : OpenClaim := { program := "ytglbgceejloiaaa", sum := "2ca2b906b58cc17c0aa3f0f2bbc4f334f8373d3dcc801cb3a5d93e04b8deefd8", func := "loop.example/g00179/laws.FnDispatched", spec := "fnDispatched", apart := false }
def FnDispatchedSaid : Prop := fnDispatchedRow.holds Try.pinned (OpenSpec.ofChange fnDispatchedSpec)

/-- ITS FALSE NEIGHBOUR: 'it returns false'. Refute it at one input. -/
def fnDispatchedWrong : ChangeSpec := { name := "fnDispatched", fn := fun _ => fun
  | [d] => { results := [.lit (.bool false)], args := [d] }
  | _ => none }
def FnDispatchedWrongFalsely : Prop := fnDispatchedRow.holds Try.pinned (OpenSpec.ofChange fnDispatchedWrong)

/-- 'laws.FnExactDispatch': WHATEVER THE INPUT: true; the input reads as it did. -/
def fnExactDispatchSpec : ChangeSpec := { name := "fnExactDispatch", fn := fun _ => fun
  | [d1, d2, d3, d4] => { results := [.lit (.bool true)], args := [d1, d2, d3, d4] }
  | _ => none }
def fnExactDispatchRow : OpenClaim := { program := "ytglbgceejloiaaa", sum := "2ca2b906b58cc17c0aa3f0f2bbc4f334f8373d3dcc801cb3a5d93e04b8deefd8", func := "loop.example/g00179/laws.FnExactDispatch", spec := "fnExactDispatch", apart := false }
def FnExactDispatchSaid : Prop := fnExactDispatchRow.holds Try.pinned (OpenSpec.ofChange fnExactDispatchSpec)

/-- ITS FALSE NEIGHBOUR: 'it returns false'. Refute it at one input. -/
def fnExactDispatchWrong : ChangeSpec := { name := "fnExactDispatch", fn := fun _ => fun
  | [d1, d2, d3, d4] => { results := [.lit (.bool false)], args := [d1, d2, d3, d4] }
  | _ => none }
def FnExactDispatchWrongFalsely : Prop := fnExactDispatchRow.holds Try.pinned (OpenSpec.ofChange fnExactDispatchWrong)

/- THE SECOND FORM. 'bulk': how many values and letters a reading holds, each counted each time it is reached (what is shared counts as often as it is met; a slice's spare places count too). A statement '..UptoSaid' is the law's where the arguments, and the package variables that the reading takes, are together of bulk at most 1048576: NARROWER than '..Said'. Prove '..Said' where nothing that the law and all that it calls make is longer than what came in: it says more and counts as full. Else prove '..UptoSaid'. A law counts once. -/
mutual
def uptoBulk {H : Type} : DataW H → Nat
  | .lit (.string bytes) => bytes.length + 1
  | .lit _ => 1
  | .nil => 1
  | .ptr d => uptoBulk d + 1
  | .slice elems spare => uptoBulkAll elems + uptoBulkAll spare + 1
  | .agg parts => uptoBulkAll parts + 1
  | .iface _ d => uptoBulk d + 1
  | .map entries => uptoBulkEntries entries + 1
  | .held _ => 1
def uptoBulkAll {H : Type} : List (DataW H) → Nat
  | [] => 0
  | d :: r => uptoBulk d + uptoBulkAll r
def uptoBulkEntries {H : Type} : List (Lit × DataW H) → Nat
  | [] => 0
  | x :: r => uptoBulkEntry x + uptoBulkEntries r
def uptoBulkEntry {H : Type} : Lit × DataW H → Nat
  | (.string bytes, d) => bytes.length + uptoBulk d + 1
  | (_, d) => uptoBulk d + 1
 end
def uptoSmall : (H : Type) → List (DataW H) → Bool := fun _ ds => decide (uptoBulkAll ds ≤ 1048576)
def OpenSpec.upto (s : _root_.Go.ChangeSpec) : _root_.Go.OpenSpec := { _root_.Go.OpenSpec.ofChange s with cond := some uptoSmall }

/-- 'laws.FnBegun', WHERE WHAT IT READS IS OF BULK AT MOST 1048576: true; the input reads as it did. -/
def fnBegunUptoRow : OpenClaim := { program := "ytglbgceejloiaaa", sum := "2ca2b906b58cc17c0aa3f0f2bbc4f334f8373d3dcc801cb3a5d93e04b8deefd8", func := "loop.example/g00179/laws.FnBegun", spec := "fnBegun", apart := false, narrowed := true }
def FnBegunUptoSaid : Prop := fnBegunUptoRow.holds Try.pinned (OpenSpec.upto fnBegunSpec)

/-- 'laws.FnAccepted', WHERE WHAT IT READS IS OF BULK AT MOST 1048576: true; the input reads as it did. -/
def fnAcceptedUptoRow : OpenClaim := { program := "ytglbgceejloiaaa", sum := "2ca2b906b58cc17c0aa3f0f2bbc4f334f8373d3dcc801cb3a5d93e04b8deefd8", func := "loop.example/g00179/laws.FnAccepted", spec := "fnAccepted", unfollowed := true, recurses := true, apart := false, narrowed := true }
def FnAcceptedUptoSaid : Prop := fnAcceptedUptoRow.holds Try.pinned (OpenSpec.upto fnAcceptedSpec)

/-- 'laws.FnDispatched', WHERE WHAT IT READS IS OF BULK AT MOST 1048576: true; the input reads as it did. -/
def fnDispatchedUptoRow : OpenClaim := { program := "ytglbgceejloiaaa", sum := "2ca2b906b58cc17c0aa3f0f2bbc4f334f8373d3dcc801cb3a5d93e04b8deefd8", func := "loop.example/g00179/laws.FnDispatched", spec := "fnDispatched", apart := false, narrowed := true }
def FnDispatchedUptoSaid : Prop := fnDispatchedUptoRow.holds Try.pinned (OpenSpec.upto fnDispatchedSpec)

/-- 'laws.FnExactDispatch', WHERE WHAT IT READS IS OF BULK AT MOST 1048576: true; the input reads as it did. -/
def fnExactDispatchUptoRow : OpenClaim := { program := "ytglbgceejloiaaa", sum := "2ca2b906b58cc17c0aa3f0f2bbc4f334f8373d3dcc801cb3a5d93e04b8deefd8", func := "loop.example/g00179/laws.FnExactDispatch", spec := "fnExactDispatch", apart := false, narrowed := true }
def FnExactDispatchUptoSaid : Prop := fnExactDispatchUptoRow.holds Try.pinned (OpenSpec.upto fnExactDispatchSpec)

end Rows
end Go.Proofs.Ytglbgceejloiaaa
