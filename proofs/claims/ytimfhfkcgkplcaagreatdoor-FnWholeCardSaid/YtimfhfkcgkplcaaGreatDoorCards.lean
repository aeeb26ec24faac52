/-
  DERIVED. GIVEN WITH THE SEED: THE CARDS: each row of YtimfhfkcgkplcaaGreatDoorRows.lean that lists a variable, with what it lists TIED to the program's text (the seventh form; the later family's looks); each row that meets fmt, with fmt's text TOLD by the authors' own Lean function (tested against real Go, not proved from fmt's source: count such statements apart). THE CARD IS WHAT COUNTS. Prove the row's statement (the work); the ties are given (YtimfhfkcgkplcaaGreatDoorTie.lean); close each card by the builder's one call (the guide's Derived/Test/ToyasCard.lean, 'card_holds'). Laid BY PROGRAM, IN A SANDBOX (cutbox-door.mjs). By AI agents, Wed Nov 11 2026. No macro, syntax, notation, axiom, sorry.
-/
import Derived.Test.YtimfhfkcgkplcaaGreatDoorRows
import GoSem.ClaimSeven
namespace Go.Proofs.YtimfhfkcgkplcaaGreatDoor
namespace Rows

/-- THE TIED CARD OF 'laws.FnWhole'. -/
def fnWholeCard : Claim7 := { stood := { row := fnWholeRow, standIns := [], harness := (true, "e36a4731e98365c52347e114aec46811c1975961d1da3e330af1fe5199744b03"), looks := true }, kinds := [], alts := [], laidByText := true, laidKinds := [.data, .data, .data], laidTests := true, laidLooks := .later }
def FnWholeCardSaid : Prop := Claim7.holds Tryz.pinned (.plain (OpenSpec.ofChange fnWholeSpec)) fnWholeCard

/-- THE TIED CARD OF 'laws.FnRecovered'. -/
def fnRecoveredCard : Claim7 := { stood := { row := fnRecoveredRow, standIns := [], harness := (true, "e36a4731e98365c52347e114aec46811c1975961d1da3e330af1fe5199744b03"), looks := true }, kinds := [], alts := [], laidByText := true, laidKinds := [.data, .data, .data, .data, .sentinel, .sentinel, .pinned], laidTests := true, laidLooks := .later }
def FnRecoveredCardSaid : Prop := Claim7.holds Tryz.pinned (.plain (OpenSpec.ofChange fnRecoveredSpec)) fnRecoveredCard

/-- THE TIED CARD OF 'laws.FnExactRecover'. -/
def fnExactRecoverCard : Claim7 := { stood := { row := fnExactRecoverRow, standIns := [], harness := (true, "e36a4731e98365c52347e114aec46811c1975961d1da3e330af1fe5199744b03"), looks := true }, kinds := [], alts := [], laidByText := true, laidKinds := [.data, .data, .data, .data, .sentinel, .sentinel, .pinned], laidTests := true, laidLooks := .later }
def FnExactRecoverCardSaid : Prop := Claim7.holds Tryz.pinned (.plain (OpenSpec.ofChange fnExactRecoverSpec)) fnExactRecoverCard

/-- THE SECOND FORM's CARD OF 'laws.FnWhole'. -/
def fnWholeUptoCard : Claim7 := { stood := { row := fnWholeUptoRow, standIns := [], harness := (true, "e36a4731e98365c52347e114aec46811c1975961d1da3e330af1fe5199744b03"), looks := true }, kinds := [], alts := [], laidByText := true, laidKinds := [.data, .data, .data], laidTests := true, laidLooks := .later }
def FnWholeUptoCardSaid : Prop := Claim7.holds Tryz.pinned (.plain (OpenSpec.upto fnWholeSpec)) fnWholeUptoCard

/-- THE SECOND FORM's CARD OF 'laws.FnRecovered'. -/
def fnRecoveredUptoCard : Claim7 := { stood := { row := fnRecoveredUptoRow, standIns := [], harness := (true, "e36a4731e98365c52347e114aec46811c1975961d1da3e330af1fe5199744b03"), looks := true }, kinds := [], alts := [], laidByText := true, laidKinds := [.data, .data, .data, .data, .sentinel, .sentinel, .pinned], laidTests := true, laidLooks := .later }
def FnRecoveredUptoCardSaid : Prop := Claim7.holds Tryz.pinned (.plain (OpenSpec.upto fnRecoveredSpec)) fnRecoveredUptoCard

/-- THE SECOND FORM's CARD OF 'laws.FnExactRecover'. -/
def fnExactRecoverUptoCard : Claim7 := { stood := { row := fnExactRecoverUptoRow, standIns := [], harness := (true, "e36a4731e98365c52347e114aec46811c1975961d1da3e330af1fe5199744b03"), looks := true }, kinds := [], alts := [], laidByText := true, laidKinds := [.data, .data, .data, .data, .sentinel, .sentinel, .pinned], laidTests := true, laidLooks := .later }
def FnExactRecoverUptoCardSaid : Prop := Claim7.holds Tryz.pinned (.plain (OpenSpec.upto fnExactRecoverSpec)) fnExactRecoverUptoCard
end Rows
end Go.Proofs.YtimfhfkcgkplcaaGreatDoor
