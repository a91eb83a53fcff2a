/-
  DERIVED. GIVEN WITH THE SEED: THE CARDS: each row of YtdhnkmbjogmmkaaGreatDoorRows.lean that lists a variable, with what it lists TIED to the program's text (the seventh form; the later family's looks); each row that meets fmt, with fmt's text TOLD by the authors' own Lean function (tested against real Go, not proved from fmt's source: count such statements apart). THE CARD IS WHAT COUNTS. Prove the row's statement (the work); the ties are given (YtdhnkmbjogmmkaaGreatDoorTie.lean); close each card by the builder's one call (the guide's Derived/Test/ToyasCard.lean, 'card_holds'). Laid BY PROGRAM, IN A SANDBOX (cutbox-door.mjs). By AI agents, Wed Nov 11 2026. No macro, syntax, notation, axiom, sorry.
-/
import Derived.Test.YtdhnkmbjogmmkaaGreatDoorRows
import GoSem.ClaimSeven
namespace Go.Proofs.YtdhnkmbjogmmkaaGreatDoor
namespace Rows

/-- THE TIED CARD OF 'dominolaw09.PrimegroupCertified'. -/
def primegroupCertifiedCard : Claim7 := { stood := { row := primegroupCertifiedRow, standIns := [], harness := (true, "7fa9bbb1e52d0b753ac30db75c84b752e7eebee6a36a594178fd40f20765a871"), looks := false }, kinds := [], alts := [], laidByText := true, laidKinds := [.data], laidTests := true, laidLooks := .later }
def PrimegroupCertifiedCardSaid : Prop := Claim7.holds Tryz.pinned (.plain (OpenSpec.ofChange primegroupCertifiedSpec)) primegroupCertifiedCard

/-- THE SECOND FORM's CARD OF 'dominolaw09.PrimegroupCertified'. -/
def primegroupCertifiedUptoCard : Claim7 := { stood := { row := primegroupCertifiedUptoRow, standIns := [], harness := (true, "7fa9bbb1e52d0b753ac30db75c84b752e7eebee6a36a594178fd40f20765a871"), looks := false }, kinds := [], alts := [], laidByText := true, laidKinds := [.data], laidTests := true, laidLooks := .later }
def PrimegroupCertifiedUptoCardSaid : Prop := Claim7.holds Tryz.pinned (.plain (OpenSpec.upto primegroupCertifiedSpec)) primegroupCertifiedUptoCard
end Rows
end Go.Proofs.YtdhnkmbjogmmkaaGreatDoor
