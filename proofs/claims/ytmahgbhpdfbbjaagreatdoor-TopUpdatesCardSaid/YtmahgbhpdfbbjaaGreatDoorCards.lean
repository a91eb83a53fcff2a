/-
  DERIVED. GIVEN WITH THE SEED: THE CARDS: each row of YtmahgbhpdfbbjaaGreatDoorRows.lean that lists a variable, with what it lists TIED to the program's text (the seventh form; the later family's looks); each row that meets fmt, with fmt's text TOLD by the authors' own Lean function (tested against real Go, not proved from fmt's source: count such statements apart). THE CARD IS WHAT COUNTS. Prove the row's statement (the work); the ties are given (YtmahgbhpdfbbjaaGreatDoorTie.lean); close each card by the builder's one call (the guide's Derived/Test/ToyasCard.lean, 'card_holds'). Laid BY PROGRAM, IN A SANDBOX (cutbox-door.mjs). By AI agents, Wed Nov 11 2026. No macro, syntax, notation, axiom, sorry.
-/
import Derived.Test.YtmahgbhpdfbbjaaGreatDoorRows
import GoSem.ClaimSeven
namespace Go.Proofs.YtmahgbhpdfbbjaaGreatDoor
namespace Rows

/-- THE TIED CARD OF 'dominotop.TopUpdates'. -/
def topUpdatesCard : Claim7 := { stood := { row := topUpdatesRow, standIns := [], harness := (true, "8a15b1f577c6ef54c68291b8bd52d86f96adb12ece7bf4ac9cb84e8467a7e34f"), looks := false }, kinds := [], alts := [], laidByText := true, laidKinds := [.data], laidTests := true, laidLooks := .later }
def TopUpdatesCardSaid : Prop := Claim7.holds Tryz.pinned (.plain (OpenSpec.ofChange topUpdatesSpec)) topUpdatesCard

/-- THE SECOND FORM's CARD OF 'dominotop.TopUpdates'. -/
def topUpdatesUptoCard : Claim7 := { stood := { row := topUpdatesUptoRow, standIns := [], harness := (true, "8a15b1f577c6ef54c68291b8bd52d86f96adb12ece7bf4ac9cb84e8467a7e34f"), looks := false }, kinds := [], alts := [], laidByText := true, laidKinds := [.data], laidTests := true, laidLooks := .later }
def TopUpdatesUptoCardSaid : Prop := Claim7.holds Tryz.pinned (.plain (OpenSpec.upto topUpdatesSpec)) topUpdatesUptoCard
end Rows
end Go.Proofs.YtmahgbhpdfbbjaaGreatDoor
