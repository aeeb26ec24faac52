/-
  DERIVED. GIVEN WITH THE SEED: THE CARDS: each row of YtcilnijdhaidjaaDoorRows.lean that lists a variable, with what it lists TIED to the program's text (the seventh form; the later family's looks); each row that meets fmt, with fmt's text TOLD by the authors' own Lean function (tested against real Go, not proved from fmt's source: count such statements apart). THE CARD IS WHAT COUNTS. Prove the row's statement (the work); the ties are given (YtcilnijdhaidjaaDoorTie.lean); close each card by the builder's one call (the guide's Derived/Test/ToyasCard.lean, 'card_holds'). Laid BY PROGRAM, IN A SANDBOX (cutbox-door.mjs). By AI agents, Wed Nov 11 2026. No macro, syntax, notation, axiom, sorry.
-/
import Derived.Test.YtcilnijdhaidjaaDoorRows
import GoSem.ClaimSeven
namespace Go.Proofs.YtcilnijdhaidjaaDoor
namespace Rows

/-- THE TIED CARD OF 'laws.FnExactActText'. -/
def fnExactActTextCard : Claim7 := { stood := { row := fnExactActTextRow, standIns := [], harness := (true, "eba6135235950a98bc9a8ed69f3b45fbd4e17af6c33a2a7450b372f727126ca2"), looks := false }, kinds := [], alts := [], laidByText := true, laidKinds := [.data, .data, .data], laidTests := true, laidLooks := .later }
def FnExactActTextCardSaid : Prop := Claim7.holds Tryd.pinned (.plain (OpenSpec.ofChange fnExactActTextSpec)) fnExactActTextCard

/-- THE TIED CARD OF 'laws.FnExactRecord'. -/
def fnExactRecordCard : Claim7 := { stood := { row := fnExactRecordRow, standIns := [], harness := (true, "eba6135235950a98bc9a8ed69f3b45fbd4e17af6c33a2a7450b372f727126ca2"), looks := false }, kinds := [], alts := [], laidByText := true, laidKinds := [.data, .data, .data], laidTests := true, laidLooks := .later }
def FnExactRecordCardSaid : Prop := Claim7.holds Tryd.pinned (.plain (OpenSpec.ofChange fnExactRecordSpec)) fnExactRecordCard

/-- THE SECOND FORM's CARD OF 'laws.FnExactActText'. -/
def fnExactActTextUptoCard : Claim7 := { stood := { row := fnExactActTextUptoRow, standIns := [], harness := (true, "eba6135235950a98bc9a8ed69f3b45fbd4e17af6c33a2a7450b372f727126ca2"), looks := false }, kinds := [], alts := [], laidByText := true, laidKinds := [.data, .data, .data], laidTests := true, laidLooks := .later }
def FnExactActTextUptoCardSaid : Prop := Claim7.holds Tryd.pinned (.plain (OpenSpec.upto fnExactActTextSpec)) fnExactActTextUptoCard

/-- THE SECOND FORM's CARD OF 'laws.FnExactRecord'. -/
def fnExactRecordUptoCard : Claim7 := { stood := { row := fnExactRecordUptoRow, standIns := [], harness := (true, "eba6135235950a98bc9a8ed69f3b45fbd4e17af6c33a2a7450b372f727126ca2"), looks := false }, kinds := [], alts := [], laidByText := true, laidKinds := [.data, .data, .data], laidTests := true, laidLooks := .later }
def FnExactRecordUptoCardSaid : Prop := Claim7.holds Tryd.pinned (.plain (OpenSpec.upto fnExactRecordSpec)) fnExactRecordUptoCard
end Rows
end Go.Proofs.YtcilnijdhaidjaaDoor
