/-
  DERIVED. GIVEN WITH THE SEED: THE CARDS: each row of YtcbjadaghpmejaaDoorRows.lean that lists a variable, with what it lists TIED to the program's text (the seventh form; the later family's looks); each row that meets fmt, with fmt's text TOLD by the authors' own Lean function (tested against real Go, not proved from fmt's source: count such statements apart). THE CARD IS WHAT COUNTS. Prove the row's statement (the work); the ties are given (YtcbjadaghpmejaaDoorTie.lean); close each card by the builder's one call (the guide's Derived/Test/ToyasCard.lean, 'card_holds'). Laid BY PROGRAM, IN A SANDBOX (cutbox-door.mjs). By AI agents, Wed Nov 11 2026. No macro, syntax, notation, axiom, sorry.
-/
import Derived.Test.YtcbjadaghpmejaaDoorRows
import GoSem.ClaimSeven
namespace Go.Proofs.YtcbjadaghpmejaaDoor
namespace Rows

/-- THE TIED CARD OF 'dominolaw09.PrimegroupChecks'. -/
def primegroupChecksCard : Claim7 := { stood := { row := primegroupChecksRow, standIns := [], harness := (true, "cde12d43049e8c614b9093f32ba9a62ba82e4b30263fbd304fd6b5ff90da43fc"), looks := false }, kinds := [], alts := [], laidByText := true, laidKinds := [.data], laidTests := true, laidLooks := .later }
def PrimegroupChecksCardSaid : Prop := Claim7.holds Tryd.pinned (.plain (OpenSpec.ofChange primegroupChecksSpec)) primegroupChecksCard

/-- THE TIED CARD OF 'dominolaw09.PrimegroupLaws'. -/
def primegroupLawsCard : Claim7 := { stood := { row := primegroupLawsRow, standIns := [], harness := (true, "cde12d43049e8c614b9093f32ba9a62ba82e4b30263fbd304fd6b5ff90da43fc"), looks := false }, kinds := [], alts := [], laidByText := true, laidKinds := [.data], laidTests := true, laidLooks := .later }
def PrimegroupLawsCardSaid : Prop := Claim7.holds Tryd.pinned (.plain (OpenSpec.ofChange primegroupLawsSpec)) primegroupLawsCard

/-- THE TIED CARD OF 'dominolaw09.PrimegroupFills'. -/
def primegroupFillsCard : Claim7 := { stood := { row := primegroupFillsRow, standIns := [], harness := (true, "cde12d43049e8c614b9093f32ba9a62ba82e4b30263fbd304fd6b5ff90da43fc"), looks := false }, kinds := [], alts := [], laidByText := true, laidKinds := [.data], laidTests := true, laidLooks := .later }
def PrimegroupFillsCardSaid : Prop := Claim7.holds Tryd.pinned (.plain (OpenSpec.ofChange primegroupFillsSpec)) primegroupFillsCard

/-- THE SECOND FORM's CARD OF 'dominolaw09.PrimegroupChecks'. -/
def primegroupChecksUptoCard : Claim7 := { stood := { row := primegroupChecksUptoRow, standIns := [], harness := (true, "cde12d43049e8c614b9093f32ba9a62ba82e4b30263fbd304fd6b5ff90da43fc"), looks := false }, kinds := [], alts := [], laidByText := true, laidKinds := [.data], laidTests := true, laidLooks := .later }
def PrimegroupChecksUptoCardSaid : Prop := Claim7.holds Tryd.pinned (.plain (OpenSpec.upto primegroupChecksSpec)) primegroupChecksUptoCard

/-- THE SECOND FORM's CARD OF 'dominolaw09.PrimegroupLaws'. -/
def primegroupLawsUptoCard : Claim7 := { stood := { row := primegroupLawsUptoRow, standIns := [], harness := (true, "cde12d43049e8c614b9093f32ba9a62ba82e4b30263fbd304fd6b5ff90da43fc"), looks := false }, kinds := [], alts := [], laidByText := true, laidKinds := [.data], laidTests := true, laidLooks := .later }
def PrimegroupLawsUptoCardSaid : Prop := Claim7.holds Tryd.pinned (.plain (OpenSpec.upto primegroupLawsSpec)) primegroupLawsUptoCard

/-- THE SECOND FORM's CARD OF 'dominolaw09.PrimegroupFills'. -/
def primegroupFillsUptoCard : Claim7 := { stood := { row := primegroupFillsUptoRow, standIns := [], harness := (true, "cde12d43049e8c614b9093f32ba9a62ba82e4b30263fbd304fd6b5ff90da43fc"), looks := false }, kinds := [], alts := [], laidByText := true, laidKinds := [.data], laidTests := true, laidLooks := .later }
def PrimegroupFillsUptoCardSaid : Prop := Claim7.holds Tryd.pinned (.plain (OpenSpec.upto primegroupFillsSpec)) primegroupFillsUptoCard
end Rows
end Go.Proofs.YtcbjadaghpmejaaDoor
