/-
  DERIVED. GIVEN WITH THE SEED: THE CARDS: each row of YtndmjfkmnjejkaaGreatDoorRows.lean that lists a variable, with what it lists TIED to the program's text (the seventh form; the later family's looks); each row that meets fmt, with fmt's text TOLD by the authors' own Lean function (tested against real Go, not proved from fmt's source: count such statements apart). THE CARD IS WHAT COUNTS. Prove the row's statement (the work); the ties are given (YtndmjfkmnjejkaaGreatDoorTie.lean); close each card by the builder's one call (the guide's Derived/Test/ToyasCard.lean, 'card_holds'). Laid BY PROGRAM, IN A SANDBOX (cutbox-door.mjs). By AI agents, Wed Nov 11 2026. No macro, syntax, notation, axiom, sorry.
-/
import Derived.Test.YtndmjfkmnjejkaaGreatDoorRows
import GoSem.ClaimSeven
namespace Go.Proofs.YtndmjfkmnjejkaaGreatDoor
namespace Rows

/-- THE TIED CARD OF 'dominolaw14.PedersenDraws'. -/
def pedersenDrawsCard : Claim7 := { stood := { row := pedersenDrawsRow, standIns := [], harness := (true, "dfdd0fb698da09582789cc149256d110bf095b430c5555426af44657f2855ff7"), looks := false }, kinds := [], alts := [], laidByText := true, laidKinds := [.data, .data, .data], laidTests := true, laidLooks := .later }
def PedersenDrawsCardSaid : Prop := Claim7.holds Tryz.pinned (.plain (OpenSpec.ofChange pedersenDrawsSpec)) pedersenDrawsCard

/-- THE TIED CARD OF 'dominolaw33.SchnorrChecks'. -/
def schnorrChecksCard : Claim7 := { stood := { row := schnorrChecksRow, standIns := [], harness := (true, "dfdd0fb698da09582789cc149256d110bf095b430c5555426af44657f2855ff7"), looks := false }, kinds := [], alts := [], laidByText := true, laidKinds := [.data, .data, .data], laidTests := true, laidLooks := .later }
def SchnorrChecksCardSaid : Prop := Claim7.holds Tryz.pinned (.plain (OpenSpec.ofChange schnorrChecksSpec)) schnorrChecksCard

/-- THE TIED CARD OF 'dominolaw33.SchnorrExtracts'. -/
def schnorrExtractsCard : Claim7 := { stood := { row := schnorrExtractsRow, standIns := [], harness := (true, "dfdd0fb698da09582789cc149256d110bf095b430c5555426af44657f2855ff7"), looks := false }, kinds := [], alts := [], laidByText := true, laidKinds := [.data, .data, .data], laidTests := true, laidLooks := .later }
def SchnorrExtractsCardSaid : Prop := Claim7.holds Tryz.pinned (.plain (OpenSpec.ofChange schnorrExtractsSpec)) schnorrExtractsCard

/-- THE TIED CARD OF 'dominolaw33.SchnorrMakes'. -/
def schnorrMakesCard : Claim7 := { stood := { row := schnorrMakesRow, standIns := [], harness := (true, "dfdd0fb698da09582789cc149256d110bf095b430c5555426af44657f2855ff7"), looks := false }, kinds := [], alts := [], laidByText := true, laidKinds := [.data, .data, .data], laidTests := true, laidLooks := .later }
def SchnorrMakesCardSaid : Prop := Claim7.holds Tryz.pinned (.plain (OpenSpec.ofChange schnorrMakesSpec)) schnorrMakesCard

/-- THE TIED CARD OF 'dominolaw33.SchnorrSecrets'. -/
def schnorrSecretsCard : Claim7 := { stood := { row := schnorrSecretsRow, standIns := [], harness := (true, "dfdd0fb698da09582789cc149256d110bf095b430c5555426af44657f2855ff7"), looks := false }, kinds := [], alts := [], laidByText := true, laidKinds := [.data, .data, .data], laidTests := true, laidLooks := .later }
def SchnorrSecretsCardSaid : Prop := Claim7.holds Tryz.pinned (.plain (OpenSpec.ofChange schnorrSecretsSpec)) schnorrSecretsCard

/-- THE TIED CARD OF 'dominolaw33.SchnorrVerifies'. -/
def schnorrVerifiesCard : Claim7 := { stood := { row := schnorrVerifiesRow, standIns := [], harness := (true, "dfdd0fb698da09582789cc149256d110bf095b430c5555426af44657f2855ff7"), looks := false }, kinds := [], alts := [], laidByText := true, laidKinds := [.data, .data, .data], laidTests := true, laidLooks := .later }
def SchnorrVerifiesCardSaid : Prop := Claim7.holds Tryz.pinned (.plain (OpenSpec.ofChange schnorrVerifiesSpec)) schnorrVerifiesCard

/-- THE TIED CARD OF 'dominolaw33.SchnorrSigns'. -/
def schnorrSignsCard : Claim7 := { stood := { row := schnorrSignsRow, standIns := [], harness := (true, "dfdd0fb698da09582789cc149256d110bf095b430c5555426af44657f2855ff7"), looks := false }, kinds := [], alts := [], laidByText := true, laidKinds := [.data, .data, .data], laidTests := true, laidLooks := .later }
def SchnorrSignsCardSaid : Prop := Claim7.holds Tryz.pinned (.plain (OpenSpec.ofChange schnorrSignsSpec)) schnorrSignsCard

/-- THE TIED CARD OF 'dominolaw33.SchnorrAccepts'. -/
def schnorrAcceptsCard : Claim7 := { stood := { row := schnorrAcceptsRow, standIns := [], harness := (true, "dfdd0fb698da09582789cc149256d110bf095b430c5555426af44657f2855ff7"), looks := false }, kinds := [], alts := [], laidByText := true, laidKinds := [.data, .data, .data], laidTests := true, laidLooks := .later }
def SchnorrAcceptsCardSaid : Prop := Claim7.holds Tryz.pinned (.plain (OpenSpec.ofChange schnorrAcceptsSpec)) schnorrAcceptsCard

/-- THE SECOND FORM's CARD OF 'dominolaw14.PedersenDraws'. -/
def pedersenDrawsUptoCard : Claim7 := { stood := { row := pedersenDrawsUptoRow, standIns := [], harness := (true, "dfdd0fb698da09582789cc149256d110bf095b430c5555426af44657f2855ff7"), looks := false }, kinds := [], alts := [], laidByText := true, laidKinds := [.data, .data, .data], laidTests := true, laidLooks := .later }
def PedersenDrawsUptoCardSaid : Prop := Claim7.holds Tryz.pinned (.plain (OpenSpec.upto pedersenDrawsSpec)) pedersenDrawsUptoCard

/-- THE SECOND FORM's CARD OF 'dominolaw33.SchnorrChecks'. -/
def schnorrChecksUptoCard : Claim7 := { stood := { row := schnorrChecksUptoRow, standIns := [], harness := (true, "dfdd0fb698da09582789cc149256d110bf095b430c5555426af44657f2855ff7"), looks := false }, kinds := [], alts := [], laidByText := true, laidKinds := [.data, .data, .data], laidTests := true, laidLooks := .later }
def SchnorrChecksUptoCardSaid : Prop := Claim7.holds Tryz.pinned (.plain (OpenSpec.upto schnorrChecksSpec)) schnorrChecksUptoCard

/-- THE SECOND FORM's CARD OF 'dominolaw33.SchnorrExtracts'. -/
def schnorrExtractsUptoCard : Claim7 := { stood := { row := schnorrExtractsUptoRow, standIns := [], harness := (true, "dfdd0fb698da09582789cc149256d110bf095b430c5555426af44657f2855ff7"), looks := false }, kinds := [], alts := [], laidByText := true, laidKinds := [.data, .data, .data], laidTests := true, laidLooks := .later }
def SchnorrExtractsUptoCardSaid : Prop := Claim7.holds Tryz.pinned (.plain (OpenSpec.upto schnorrExtractsSpec)) schnorrExtractsUptoCard

/-- THE SECOND FORM's CARD OF 'dominolaw33.SchnorrMakes'. -/
def schnorrMakesUptoCard : Claim7 := { stood := { row := schnorrMakesUptoRow, standIns := [], harness := (true, "dfdd0fb698da09582789cc149256d110bf095b430c5555426af44657f2855ff7"), looks := false }, kinds := [], alts := [], laidByText := true, laidKinds := [.data, .data, .data], laidTests := true, laidLooks := .later }
def SchnorrMakesUptoCardSaid : Prop := Claim7.holds Tryz.pinned (.plain (OpenSpec.upto schnorrMakesSpec)) schnorrMakesUptoCard

/-- THE SECOND FORM's CARD OF 'dominolaw33.SchnorrSecrets'. -/
def schnorrSecretsUptoCard : Claim7 := { stood := { row := schnorrSecretsUptoRow, standIns := [], harness := (true, "dfdd0fb698da09582789cc149256d110bf095b430c5555426af44657f2855ff7"), looks := false }, kinds := [], alts := [], laidByText := true, laidKinds := [.data, .data, .data], laidTests := true, laidLooks := .later }
def SchnorrSecretsUptoCardSaid : Prop := Claim7.holds Tryz.pinned (.plain (OpenSpec.upto schnorrSecretsSpec)) schnorrSecretsUptoCard

/-- THE SECOND FORM's CARD OF 'dominolaw33.SchnorrVerifies'. -/
def schnorrVerifiesUptoCard : Claim7 := { stood := { row := schnorrVerifiesUptoRow, standIns := [], harness := (true, "dfdd0fb698da09582789cc149256d110bf095b430c5555426af44657f2855ff7"), looks := false }, kinds := [], alts := [], laidByText := true, laidKinds := [.data, .data, .data], laidTests := true, laidLooks := .later }
def SchnorrVerifiesUptoCardSaid : Prop := Claim7.holds Tryz.pinned (.plain (OpenSpec.upto schnorrVerifiesSpec)) schnorrVerifiesUptoCard

/-- THE SECOND FORM's CARD OF 'dominolaw33.SchnorrSigns'. -/
def schnorrSignsUptoCard : Claim7 := { stood := { row := schnorrSignsUptoRow, standIns := [], harness := (true, "dfdd0fb698da09582789cc149256d110bf095b430c5555426af44657f2855ff7"), looks := false }, kinds := [], alts := [], laidByText := true, laidKinds := [.data, .data, .data], laidTests := true, laidLooks := .later }
def SchnorrSignsUptoCardSaid : Prop := Claim7.holds Tryz.pinned (.plain (OpenSpec.upto schnorrSignsSpec)) schnorrSignsUptoCard

/-- THE SECOND FORM's CARD OF 'dominolaw33.SchnorrAccepts'. -/
def schnorrAcceptsUptoCard : Claim7 := { stood := { row := schnorrAcceptsUptoRow, standIns := [], harness := (true, "dfdd0fb698da09582789cc149256d110bf095b430c5555426af44657f2855ff7"), looks := false }, kinds := [], alts := [], laidByText := true, laidKinds := [.data, .data, .data], laidTests := true, laidLooks := .later }
def SchnorrAcceptsUptoCardSaid : Prop := Claim7.holds Tryz.pinned (.plain (OpenSpec.upto schnorrAcceptsSpec)) schnorrAcceptsUptoCard
end Rows
end Go.Proofs.YtndmjfkmnjejkaaGreatDoor
