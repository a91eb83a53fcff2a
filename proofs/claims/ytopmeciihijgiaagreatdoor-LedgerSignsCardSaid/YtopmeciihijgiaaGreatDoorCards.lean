/-
  DERIVED. GIVEN WITH THE SEED: THE CARDS: each row of YtopmeciihijgiaaGreatDoorRows.lean that lists a variable, with what it lists TIED to the program's text (the seventh form; the later family's looks); each row that meets fmt, with fmt's text TOLD by the authors' own Lean function (tested against real Go, not proved from fmt's source: count such statements apart). THE CARD IS WHAT COUNTS. Prove the row's statement (the work); the ties are given (YtopmeciihijgiaaGreatDoorTie.lean); close each card by the builder's one call (the guide's Derived/Test/ToyasCard.lean, 'card_holds'). Laid BY PROGRAM, IN A SANDBOX (cutbox-door.mjs). By AI agents, Wed Nov 11 2026. No macro, syntax, notation, axiom, sorry.
-/
import Derived.Test.YtopmeciihijgiaaGreatDoorRows
import GoSem.ClaimSeven
namespace Go.Proofs.YtopmeciihijgiaaGreatDoor
namespace Rows

/-- THE TIED CARD OF 'dominolaw57.LedgerSigns'. -/
def ledgerSignsCard : Claim7 := { stood := { row := ledgerSignsRow, standIns := [], harness := (true, "aea7864970750dca4d2c99bbe3db6992ea9bf2d52031c2e865e8e8d00bea163e"), looks := false }, kinds := [], alts := [], laidByText := true, laidKinds := [.data, .data, .data], laidTests := true, laidLooks := .later }
def LedgerSignsCardSaid : Prop := Claim7.holds Tryz.pinned (.plain (OpenSpec.ofChange ledgerSignsSpec)) ledgerSignsCard

/-- THE TIED CARD OF 'dominolaw57.LedgerPrefixes'. -/
def ledgerPrefixesCard : Claim7 := { stood := { row := ledgerPrefixesRow, standIns := [], harness := (true, "aea7864970750dca4d2c99bbe3db6992ea9bf2d52031c2e865e8e8d00bea163e"), looks := false }, kinds := [], alts := [], laidByText := true, laidKinds := [.data, .data, .data], laidTests := true, laidLooks := .later }
def LedgerPrefixesCardSaid : Prop := Claim7.holds Tryz.pinned (.plain (OpenSpec.ofChange ledgerPrefixesSpec)) ledgerPrefixesCard

/-- THE SECOND FORM's CARD OF 'dominolaw57.LedgerSigns'. -/
def ledgerSignsUptoCard : Claim7 := { stood := { row := ledgerSignsUptoRow, standIns := [], harness := (true, "aea7864970750dca4d2c99bbe3db6992ea9bf2d52031c2e865e8e8d00bea163e"), looks := false }, kinds := [], alts := [], laidByText := true, laidKinds := [.data, .data, .data], laidTests := true, laidLooks := .later }
def LedgerSignsUptoCardSaid : Prop := Claim7.holds Tryz.pinned (.plain (OpenSpec.upto ledgerSignsSpec)) ledgerSignsUptoCard

/-- THE SECOND FORM's CARD OF 'dominolaw57.LedgerPrefixes'. -/
def ledgerPrefixesUptoCard : Claim7 := { stood := { row := ledgerPrefixesUptoRow, standIns := [], harness := (true, "aea7864970750dca4d2c99bbe3db6992ea9bf2d52031c2e865e8e8d00bea163e"), looks := false }, kinds := [], alts := [], laidByText := true, laidKinds := [.data, .data, .data], laidTests := true, laidLooks := .later }
def LedgerPrefixesUptoCardSaid : Prop := Claim7.holds Tryz.pinned (.plain (OpenSpec.upto ledgerPrefixesSpec)) ledgerPrefixesUptoCard
end Rows
end Go.Proofs.YtopmeciihijgiaaGreatDoor
