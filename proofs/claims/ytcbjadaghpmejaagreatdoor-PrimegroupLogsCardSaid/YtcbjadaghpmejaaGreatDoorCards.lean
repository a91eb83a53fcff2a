/-
  DERIVED. GIVEN WITH THE SEED: THE CARDS: each row of YtcbjadaghpmejaaGreatDoorRows.lean that lists a variable, with what it lists TIED to the program's text (the seventh form; the later family's looks); each row that meets fmt, with fmt's text TOLD by the authors' own Lean function (tested against real Go, not proved from fmt's source: count such statements apart). THE CARD IS WHAT COUNTS. Prove the row's statement (the work); the ties are given (YtcbjadaghpmejaaGreatDoorTie.lean); close each card by the builder's one call (the guide's Derived/Test/ToyasCard.lean, 'card_holds'). Laid BY PROGRAM, IN A SANDBOX (cutbox-door.mjs). By AI agents, Wed Nov 11 2026. No macro, syntax, notation, axiom, sorry.
-/
import Derived.Test.YtcbjadaghpmejaaGreatDoorRows
import GoSem.ClaimSeven
namespace Go.Proofs.YtcbjadaghpmejaaGreatDoor
namespace Rows

/-- THE TIED CARD OF 'dominolaw09.PrimegroupHas'. -/
def primegroupHasCard : Claim7 := { stood := { row := primegroupHasRow, standIns := [], harness := (true, "418bf2418aae6498387162b28c5d91c9e21f0b5ead6f96d8b8149ecb22697343"), looks := false }, kinds := [], alts := [], laidByText := true, laidKinds := [.data], laidTests := true, laidLooks := .later }
def PrimegroupHasCardSaid : Prop := Claim7.holds Tryz.pinned (.plain (OpenSpec.ofChange primegroupHasSpec)) primegroupHasCard

/-- THE TIED CARD OF 'dominolaw09.PrimegroupMultiplies'. -/
def primegroupMultipliesCard : Claim7 := { stood := { row := primegroupMultipliesRow, standIns := [], harness := (true, "418bf2418aae6498387162b28c5d91c9e21f0b5ead6f96d8b8149ecb22697343"), looks := false }, kinds := [], alts := [], laidByText := true, laidKinds := [.data], laidTests := true, laidLooks := .later }
def PrimegroupMultipliesCardSaid : Prop := Claim7.holds Tryz.pinned (.plain (OpenSpec.ofChange primegroupMultipliesSpec)) primegroupMultipliesCard

/-- THE TIED CARD OF 'dominolaw09.PrimegroupPowers'. -/
def primegroupPowersCard : Claim7 := { stood := { row := primegroupPowersRow, standIns := [], harness := (true, "418bf2418aae6498387162b28c5d91c9e21f0b5ead6f96d8b8149ecb22697343"), looks := false }, kinds := [], alts := [], laidByText := true, laidKinds := [.data], laidTests := true, laidLooks := .later }
def PrimegroupPowersCardSaid : Prop := Claim7.holds Tryz.pinned (.plain (OpenSpec.ofChange primegroupPowersSpec)) primegroupPowersCard

/-- THE TIED CARD OF 'dominolaw09.PrimegroupLogs'. -/
def primegroupLogsCard : Claim7 := { stood := { row := primegroupLogsRow, standIns := [], harness := (true, "418bf2418aae6498387162b28c5d91c9e21f0b5ead6f96d8b8149ecb22697343"), looks := false }, kinds := [], alts := [], laidByText := true, laidKinds := [.data], laidTests := true, laidLooks := .later }
def PrimegroupLogsCardSaid : Prop := Claim7.holds Tryz.pinned (.plain (OpenSpec.ofChange primegroupLogsSpec)) primegroupLogsCard

/-- THE SECOND FORM's CARD OF 'dominolaw09.PrimegroupHas'. -/
def primegroupHasUptoCard : Claim7 := { stood := { row := primegroupHasUptoRow, standIns := [], harness := (true, "418bf2418aae6498387162b28c5d91c9e21f0b5ead6f96d8b8149ecb22697343"), looks := false }, kinds := [], alts := [], laidByText := true, laidKinds := [.data], laidTests := true, laidLooks := .later }
def PrimegroupHasUptoCardSaid : Prop := Claim7.holds Tryz.pinned (.plain (OpenSpec.upto primegroupHasSpec)) primegroupHasUptoCard

/-- THE SECOND FORM's CARD OF 'dominolaw09.PrimegroupMultiplies'. -/
def primegroupMultipliesUptoCard : Claim7 := { stood := { row := primegroupMultipliesUptoRow, standIns := [], harness := (true, "418bf2418aae6498387162b28c5d91c9e21f0b5ead6f96d8b8149ecb22697343"), looks := false }, kinds := [], alts := [], laidByText := true, laidKinds := [.data], laidTests := true, laidLooks := .later }
def PrimegroupMultipliesUptoCardSaid : Prop := Claim7.holds Tryz.pinned (.plain (OpenSpec.upto primegroupMultipliesSpec)) primegroupMultipliesUptoCard

/-- THE SECOND FORM's CARD OF 'dominolaw09.PrimegroupPowers'. -/
def primegroupPowersUptoCard : Claim7 := { stood := { row := primegroupPowersUptoRow, standIns := [], harness := (true, "418bf2418aae6498387162b28c5d91c9e21f0b5ead6f96d8b8149ecb22697343"), looks := false }, kinds := [], alts := [], laidByText := true, laidKinds := [.data], laidTests := true, laidLooks := .later }
def PrimegroupPowersUptoCardSaid : Prop := Claim7.holds Tryz.pinned (.plain (OpenSpec.upto primegroupPowersSpec)) primegroupPowersUptoCard

/-- THE SECOND FORM's CARD OF 'dominolaw09.PrimegroupLogs'. -/
def primegroupLogsUptoCard : Claim7 := { stood := { row := primegroupLogsUptoRow, standIns := [], harness := (true, "418bf2418aae6498387162b28c5d91c9e21f0b5ead6f96d8b8149ecb22697343"), looks := false }, kinds := [], alts := [], laidByText := true, laidKinds := [.data], laidTests := true, laidLooks := .later }
def PrimegroupLogsUptoCardSaid : Prop := Claim7.holds Tryz.pinned (.plain (OpenSpec.upto primegroupLogsSpec)) primegroupLogsUptoCard
end Rows
end Go.Proofs.YtcbjadaghpmejaaGreatDoor
