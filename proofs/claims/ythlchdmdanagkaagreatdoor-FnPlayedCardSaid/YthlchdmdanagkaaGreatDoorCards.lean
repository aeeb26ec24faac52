/-
  DERIVED. GIVEN WITH THE SEED: THE CARDS: each row of YthlchdmdanagkaaGreatDoorRows.lean that lists a variable, with what it lists TIED to the program's text (the seventh form; the later family's looks); each row that meets fmt, with fmt's text TOLD by the authors' own Lean function (tested against real Go, not proved from fmt's source: count such statements apart). THE CARD IS WHAT COUNTS. Prove the row's statement (the work); the ties are given (YthlchdmdanagkaaGreatDoorTie.lean); close each card by the builder's one call (the guide's Derived/Test/ToyasCard.lean, 'card_holds'). Laid BY PROGRAM, IN A SANDBOX (cutbox-door.mjs). By AI agents, Wed Nov 11 2026. No macro, syntax, notation, axiom, sorry.
-/
import Derived.Test.YthlchdmdanagkaaGreatDoorRows
import GoSem.ClaimSeven
namespace Go.Proofs.YthlchdmdanagkaaGreatDoor
namespace Rows

/-- THE TIED CARD OF 'laws.FnWhole'. -/
def fnWholeCard : Claim7 := { stood := { row := fnWholeRow, standIns := [], harness := (true, "9c30591aa2cc687ebd97654a6ea8818b0e679df4957cf61586f988df740cd475"), looks := false }, kinds := [], alts := [], laidByText := true, laidKinds := [.data, .data, .data], laidTests := true, laidLooks := .later }
def FnWholeCardSaid : Prop := Claim7.holds Tryz.pinned (.plain (OpenSpec.ofChange fnWholeSpec)) fnWholeCard

/-- THE TIED CARD OF 'laws.FnPlayed'. -/
def fnPlayedCard : Claim7 := { stood := { row := fnPlayedRow, standIns := [], harness := (true, "9c30591aa2cc687ebd97654a6ea8818b0e679df4957cf61586f988df740cd475"), looks := false }, kinds := [], alts := [], laidByText := true, laidKinds := [.data, .data, .data], laidTests := true, laidLooks := .later }
def FnPlayedCardSaid : Prop := Claim7.holds Tryz.pinned (.plain (OpenSpec.ofChange fnPlayedSpec)) fnPlayedCard

/-- THE SECOND FORM's CARD OF 'laws.FnWhole'. -/
def fnWholeUptoCard : Claim7 := { stood := { row := fnWholeUptoRow, standIns := [], harness := (true, "9c30591aa2cc687ebd97654a6ea8818b0e679df4957cf61586f988df740cd475"), looks := false }, kinds := [], alts := [], laidByText := true, laidKinds := [.data, .data, .data], laidTests := true, laidLooks := .later }
def FnWholeUptoCardSaid : Prop := Claim7.holds Tryz.pinned (.plain (OpenSpec.upto fnWholeSpec)) fnWholeUptoCard

/-- THE SECOND FORM's CARD OF 'laws.FnPlayed'. -/
def fnPlayedUptoCard : Claim7 := { stood := { row := fnPlayedUptoRow, standIns := [], harness := (true, "9c30591aa2cc687ebd97654a6ea8818b0e679df4957cf61586f988df740cd475"), looks := false }, kinds := [], alts := [], laidByText := true, laidKinds := [.data, .data, .data], laidTests := true, laidLooks := .later }
def FnPlayedUptoCardSaid : Prop := Claim7.holds Tryz.pinned (.plain (OpenSpec.upto fnPlayedSpec)) fnPlayedUptoCard
end Rows
end Go.Proofs.YthlchdmdanagkaaGreatDoor
