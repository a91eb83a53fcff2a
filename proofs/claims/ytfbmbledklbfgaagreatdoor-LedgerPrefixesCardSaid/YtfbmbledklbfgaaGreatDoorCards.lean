/-
  DERIVED. GIVEN WITH THE SEED: THE CARDS: each row of YtfbmbledklbfgaaGreatDoorRows.lean that lists a variable, with what it lists TIED to the program's text (the seventh form; the later family's looks); each row that meets fmt, with fmt's text TOLD by the authors' own Lean function (tested against real Go, not proved from fmt's source: count such statements apart). THE CARD IS WHAT COUNTS. Prove the row's statement (the work); the ties are given (YtfbmbledklbfgaaGreatDoorTie.lean); close each card by the builder's one call (the guide's Derived/Test/ToyasCard.lean, 'card_holds'). Laid BY PROGRAM, IN A SANDBOX (cutbox-door.mjs). By AI agents, Wed Nov 11 2026. No macro, syntax, notation, axiom, sorry.
-/
import Derived.Test.YtfbmbledklbfgaaGreatDoorRows
import GoSem.ClaimSeven
namespace Go.Proofs.YtfbmbledklbfgaaGreatDoor
namespace Rows

/-- THE TIED CARD OF 'dominolaw57.LedgerPrefixes'. -/
def ledgerPrefixesCard : Claim7 := { stood := { row := ledgerPrefixesRow, standIns := [], harness := (true, "04c387459ba4bf671740751309709cd9b51b57d8475b3eb4cb8cea3685e180a3"), looks := false }, kinds := [], alts := [], laidByText := true, laidKinds := [.data, .data, .data], laidTests := true, laidLooks := .later }
def LedgerPrefixesCardSaid : Prop := Claim7.holds Tryz.pinned (.plain (OpenSpec.ofChange ledgerPrefixesSpec)) ledgerPrefixesCard

/-- THE SECOND FORM's CARD OF 'dominolaw57.LedgerPrefixes'. -/
def ledgerPrefixesUptoCard : Claim7 := { stood := { row := ledgerPrefixesUptoRow, standIns := [], harness := (true, "04c387459ba4bf671740751309709cd9b51b57d8475b3eb4cb8cea3685e180a3"), looks := false }, kinds := [], alts := [], laidByText := true, laidKinds := [.data, .data, .data], laidTests := true, laidLooks := .later }
def LedgerPrefixesUptoCardSaid : Prop := Claim7.holds Tryz.pinned (.plain (OpenSpec.upto ledgerPrefixesSpec)) ledgerPrefixesUptoCard
end Rows
end Go.Proofs.YtfbmbledklbfgaaGreatDoor
