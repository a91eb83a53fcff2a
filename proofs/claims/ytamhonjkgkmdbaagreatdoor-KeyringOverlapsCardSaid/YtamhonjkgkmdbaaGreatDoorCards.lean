/-
  DERIVED. GIVEN WITH THE SEED: THE CARDS: each row of YtamhonjkgkmdbaaGreatDoorRows.lean that lists a variable, with what it lists TIED to the program's text (the seventh form; the later family's looks); each row that meets fmt, with fmt's text TOLD by the authors' own Lean function (tested against real Go, not proved from fmt's source: count such statements apart). THE CARD IS WHAT COUNTS. Prove the row's statement (the work); the ties are given (YtamhonjkgkmdbaaGreatDoorTie.lean); close each card by the builder's one call (the guide's Derived/Test/ToyasCard.lean, 'card_holds'). Laid BY PROGRAM, IN A SANDBOX (cutbox-door.mjs). By AI agents, Wed Nov 11 2026. No macro, syntax, notation, axiom, sorry.
-/
import Derived.Test.YtamhonjkgkmdbaaGreatDoorRows
import GoSem.ClaimSeven
namespace Go.Proofs.YtamhonjkgkmdbaaGreatDoor
namespace Rows

/-- THE TIED CARD OF 'dominolaw58.KeyringCovers'. -/
def keyringCoversCard : Claim7 := { stood := { row := keyringCoversRow, standIns := [], harness := (true, "2394f1937da9528edd5abbfffaac26a619b0bfd083540fd9a6cc77c4e031bbbe"), looks := false }, kinds := [], alts := [], laidByText := true, laidKinds := [.data, .data, .data], laidTests := true, laidLooks := .later }
def KeyringCoversCardSaid : Prop := Claim7.holds Tryz.pinned (.plain (OpenSpec.ofChange keyringCoversSpec)) keyringCoversCard

/-- THE TIED CARD OF 'dominolaw58.KeyringOverlaps'. -/
def keyringOverlapsCard : Claim7 := { stood := { row := keyringOverlapsRow, standIns := [], harness := (true, "2394f1937da9528edd5abbfffaac26a619b0bfd083540fd9a6cc77c4e031bbbe"), looks := false }, kinds := [], alts := [], laidByText := true, laidKinds := [.data, .data, .data], laidTests := true, laidLooks := .later }
def KeyringOverlapsCardSaid : Prop := Claim7.holds Tryz.pinned (.plain (OpenSpec.ofChange keyringOverlapsSpec)) keyringOverlapsCard

/-- THE SECOND FORM's CARD OF 'dominolaw58.KeyringCovers'. -/
def keyringCoversUptoCard : Claim7 := { stood := { row := keyringCoversUptoRow, standIns := [], harness := (true, "2394f1937da9528edd5abbfffaac26a619b0bfd083540fd9a6cc77c4e031bbbe"), looks := false }, kinds := [], alts := [], laidByText := true, laidKinds := [.data, .data, .data], laidTests := true, laidLooks := .later }
def KeyringCoversUptoCardSaid : Prop := Claim7.holds Tryz.pinned (.plain (OpenSpec.upto keyringCoversSpec)) keyringCoversUptoCard

/-- THE SECOND FORM's CARD OF 'dominolaw58.KeyringOverlaps'. -/
def keyringOverlapsUptoCard : Claim7 := { stood := { row := keyringOverlapsUptoRow, standIns := [], harness := (true, "2394f1937da9528edd5abbfffaac26a619b0bfd083540fd9a6cc77c4e031bbbe"), looks := false }, kinds := [], alts := [], laidByText := true, laidKinds := [.data, .data, .data], laidTests := true, laidLooks := .later }
def KeyringOverlapsUptoCardSaid : Prop := Claim7.holds Tryz.pinned (.plain (OpenSpec.upto keyringOverlapsSpec)) keyringOverlapsUptoCard
end Rows
end Go.Proofs.YtamhonjkgkmdbaaGreatDoor
