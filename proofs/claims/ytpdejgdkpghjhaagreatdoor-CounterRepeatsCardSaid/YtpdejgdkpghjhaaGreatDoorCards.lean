/-
  DERIVED. GIVEN WITH THE SEED: THE CARDS: each row of YtpdejgdkpghjhaaGreatDoorRows.lean that lists a variable, with what it lists TIED to the program's text (the seventh form; the later family's looks); each row that meets fmt, with fmt's text TOLD by the authors' own Lean function (tested against real Go, not proved from fmt's source: count such statements apart). THE CARD IS WHAT COUNTS. Prove the row's statement (the work); the ties are given (YtpdejgdkpghjhaaGreatDoorTie.lean); close each card by the builder's one call (the guide's Derived/Test/ToyasCard.lean, 'card_holds'). Laid BY PROGRAM, IN A SANDBOX (cutbox-door.mjs). By AI agents, Wed Nov 11 2026. No macro, syntax, notation, axiom, sorry.
-/
import Derived.Test.YtpdejgdkpghjhaaGreatDoorRows
import GoSem.ClaimSeven
namespace Go.Proofs.YtpdejgdkpghjhaaGreatDoor
namespace Rows

/-- THE TIED CARD OF 'dominolaw49.CounterBases'. -/
def counterBasesCard : Claim7 := { stood := { row := counterBasesRow, standIns := [], harness := (true, "e26f402273e4eedb0710ea3ca5b95852d7e57a41b44801014f2f1be352b320a4"), looks := false }, kinds := [], alts := [], laidByText := true, laidKinds := [.data, .data, .data], laidTests := true, laidLooks := .later }
def CounterBasesCardSaid : Prop := Claim7.holds Tryz.pinned (.plain (OpenSpec.ofChange counterBasesSpec)) counterBasesCard

/-- THE TIED CARD OF 'dominolaw49.CounterSerials'. -/
def counterSerialsCard : Claim7 := { stood := { row := counterSerialsRow, standIns := [], harness := (true, "e26f402273e4eedb0710ea3ca5b95852d7e57a41b44801014f2f1be352b320a4"), looks := false }, kinds := [], alts := [], laidByText := true, laidKinds := [.data, .data, .data], laidTests := true, laidLooks := .later }
def CounterSerialsCardSaid : Prop := Claim7.holds Tryz.pinned (.plain (OpenSpec.ofChange counterSerialsSpec)) counterSerialsCard

/-- THE TIED CARD OF 'dominolaw49.CounterLinks'. -/
def counterLinksCard : Claim7 := { stood := { row := counterLinksRow, standIns := [], harness := (true, "e26f402273e4eedb0710ea3ca5b95852d7e57a41b44801014f2f1be352b320a4"), looks := false }, kinds := [], alts := [], laidByText := true, laidKinds := [.data, .data, .data], laidTests := true, laidLooks := .later }
def CounterLinksCardSaid : Prop := Claim7.holds Tryz.pinned (.plain (OpenSpec.ofChange counterLinksSpec)) counterLinksCard

/-- THE TIED CARD OF 'dominolaw49.CounterRepeats'. -/
def counterRepeatsCard : Claim7 := { stood := { row := counterRepeatsRow, standIns := [], harness := (true, "e26f402273e4eedb0710ea3ca5b95852d7e57a41b44801014f2f1be352b320a4"), looks := false }, kinds := [], alts := [], laidByText := true, laidKinds := [.data, .data, .data], laidTests := true, laidLooks := .later }
def CounterRepeatsCardSaid : Prop := Claim7.holds Tryz.pinned (.plain (OpenSpec.ofChange counterRepeatsSpec)) counterRepeatsCard

/-- THE TIED CARD OF 'dominolaw14.PedersenKeys'. -/
def pedersenKeysCard : Claim7 := { stood := { row := pedersenKeysRow, standIns := [], harness := (true, "e26f402273e4eedb0710ea3ca5b95852d7e57a41b44801014f2f1be352b320a4"), looks := false }, kinds := [], alts := [], laidByText := true, laidKinds := [.data, .data, .data], laidTests := true, laidLooks := .later }
def PedersenKeysCardSaid : Prop := Claim7.holds Tryz.pinned (.plain (OpenSpec.ofChange pedersenKeysSpec)) pedersenKeysCard

/-- THE TIED CARD OF 'dominolaw33.SchnorrChecks'. -/
def schnorrChecksCard : Claim7 := { stood := { row := schnorrChecksRow, standIns := [], harness := (true, "e26f402273e4eedb0710ea3ca5b95852d7e57a41b44801014f2f1be352b320a4"), looks := false }, kinds := [], alts := [], laidByText := true, laidKinds := [.data, .data, .data], laidTests := true, laidLooks := .later }
def SchnorrChecksCardSaid : Prop := Claim7.holds Tryz.pinned (.plain (OpenSpec.ofChange schnorrChecksSpec)) schnorrChecksCard

/-- THE TIED CARD OF 'dominolaw33.SchnorrExtracts'. -/
def schnorrExtractsCard : Claim7 := { stood := { row := schnorrExtractsRow, standIns := [], harness := (true, "e26f402273e4eedb0710ea3ca5b95852d7e57a41b44801014f2f1be352b320a4"), looks := false }, kinds := [], alts := [], laidByText := true, laidKinds := [.data, .data, .data], laidTests := true, laidLooks := .later }
def SchnorrExtractsCardSaid : Prop := Claim7.holds Tryz.pinned (.plain (OpenSpec.ofChange schnorrExtractsSpec)) schnorrExtractsCard

/-- THE TIED CARD OF 'dominolaw14.PedersenDraws'. -/
def pedersenDrawsCard : Claim7 := { stood := { row := pedersenDrawsRow, standIns := [], harness := (true, "e26f402273e4eedb0710ea3ca5b95852d7e57a41b44801014f2f1be352b320a4"), looks := false }, kinds := [], alts := [], laidByText := true, laidKinds := [.data, .data, .data], laidTests := true, laidLooks := .later }
def PedersenDrawsCardSaid : Prop := Claim7.holds Tryz.pinned (.plain (OpenSpec.ofChange pedersenDrawsSpec)) pedersenDrawsCard

/-- THE TIED CARD OF 'dominolaw33.SchnorrMakes'. -/
def schnorrMakesCard : Claim7 := { stood := { row := schnorrMakesRow, standIns := [], harness := (true, "e26f402273e4eedb0710ea3ca5b95852d7e57a41b44801014f2f1be352b320a4"), looks := false }, kinds := [], alts := [], laidByText := true, laidKinds := [.data, .data, .data], laidTests := true, laidLooks := .later }
def SchnorrMakesCardSaid : Prop := Claim7.holds Tryz.pinned (.plain (OpenSpec.ofChange schnorrMakesSpec)) schnorrMakesCard

/-- THE TIED CARD OF 'dominolaw33.SchnorrSecrets'. -/
def schnorrSecretsCard : Claim7 := { stood := { row := schnorrSecretsRow, standIns := [], harness := (true, "e26f402273e4eedb0710ea3ca5b95852d7e57a41b44801014f2f1be352b320a4"), looks := false }, kinds := [], alts := [], laidByText := true, laidKinds := [.data, .data, .data], laidTests := true, laidLooks := .later }
def SchnorrSecretsCardSaid : Prop := Claim7.holds Tryz.pinned (.plain (OpenSpec.ofChange schnorrSecretsSpec)) schnorrSecretsCard

/-- THE SECOND FORM's CARD OF 'dominolaw49.CounterBases'. -/
def counterBasesUptoCard : Claim7 := { stood := { row := counterBasesUptoRow, standIns := [], harness := (true, "e26f402273e4eedb0710ea3ca5b95852d7e57a41b44801014f2f1be352b320a4"), looks := false }, kinds := [], alts := [], laidByText := true, laidKinds := [.data, .data, .data], laidTests := true, laidLooks := .later }
def CounterBasesUptoCardSaid : Prop := Claim7.holds Tryz.pinned (.plain (OpenSpec.upto counterBasesSpec)) counterBasesUptoCard

/-- THE SECOND FORM's CARD OF 'dominolaw49.CounterSerials'. -/
def counterSerialsUptoCard : Claim7 := { stood := { row := counterSerialsUptoRow, standIns := [], harness := (true, "e26f402273e4eedb0710ea3ca5b95852d7e57a41b44801014f2f1be352b320a4"), looks := false }, kinds := [], alts := [], laidByText := true, laidKinds := [.data, .data, .data], laidTests := true, laidLooks := .later }
def CounterSerialsUptoCardSaid : Prop := Claim7.holds Tryz.pinned (.plain (OpenSpec.upto counterSerialsSpec)) counterSerialsUptoCard

/-- THE SECOND FORM's CARD OF 'dominolaw49.CounterLinks'. -/
def counterLinksUptoCard : Claim7 := { stood := { row := counterLinksUptoRow, standIns := [], harness := (true, "e26f402273e4eedb0710ea3ca5b95852d7e57a41b44801014f2f1be352b320a4"), looks := false }, kinds := [], alts := [], laidByText := true, laidKinds := [.data, .data, .data], laidTests := true, laidLooks := .later }
def CounterLinksUptoCardSaid : Prop := Claim7.holds Tryz.pinned (.plain (OpenSpec.upto counterLinksSpec)) counterLinksUptoCard

/-- THE SECOND FORM's CARD OF 'dominolaw49.CounterRepeats'. -/
def counterRepeatsUptoCard : Claim7 := { stood := { row := counterRepeatsUptoRow, standIns := [], harness := (true, "e26f402273e4eedb0710ea3ca5b95852d7e57a41b44801014f2f1be352b320a4"), looks := false }, kinds := [], alts := [], laidByText := true, laidKinds := [.data, .data, .data], laidTests := true, laidLooks := .later }
def CounterRepeatsUptoCardSaid : Prop := Claim7.holds Tryz.pinned (.plain (OpenSpec.upto counterRepeatsSpec)) counterRepeatsUptoCard

/-- THE SECOND FORM's CARD OF 'dominolaw14.PedersenKeys'. -/
def pedersenKeysUptoCard : Claim7 := { stood := { row := pedersenKeysUptoRow, standIns := [], harness := (true, "e26f402273e4eedb0710ea3ca5b95852d7e57a41b44801014f2f1be352b320a4"), looks := false }, kinds := [], alts := [], laidByText := true, laidKinds := [.data, .data, .data], laidTests := true, laidLooks := .later }
def PedersenKeysUptoCardSaid : Prop := Claim7.holds Tryz.pinned (.plain (OpenSpec.upto pedersenKeysSpec)) pedersenKeysUptoCard

/-- THE SECOND FORM's CARD OF 'dominolaw33.SchnorrChecks'. -/
def schnorrChecksUptoCard : Claim7 := { stood := { row := schnorrChecksUptoRow, standIns := [], harness := (true, "e26f402273e4eedb0710ea3ca5b95852d7e57a41b44801014f2f1be352b320a4"), looks := false }, kinds := [], alts := [], laidByText := true, laidKinds := [.data, .data, .data], laidTests := true, laidLooks := .later }
def SchnorrChecksUptoCardSaid : Prop := Claim7.holds Tryz.pinned (.plain (OpenSpec.upto schnorrChecksSpec)) schnorrChecksUptoCard

/-- THE SECOND FORM's CARD OF 'dominolaw33.SchnorrExtracts'. -/
def schnorrExtractsUptoCard : Claim7 := { stood := { row := schnorrExtractsUptoRow, standIns := [], harness := (true, "e26f402273e4eedb0710ea3ca5b95852d7e57a41b44801014f2f1be352b320a4"), looks := false }, kinds := [], alts := [], laidByText := true, laidKinds := [.data, .data, .data], laidTests := true, laidLooks := .later }
def SchnorrExtractsUptoCardSaid : Prop := Claim7.holds Tryz.pinned (.plain (OpenSpec.upto schnorrExtractsSpec)) schnorrExtractsUptoCard

/-- THE SECOND FORM's CARD OF 'dominolaw14.PedersenDraws'. -/
def pedersenDrawsUptoCard : Claim7 := { stood := { row := pedersenDrawsUptoRow, standIns := [], harness := (true, "e26f402273e4eedb0710ea3ca5b95852d7e57a41b44801014f2f1be352b320a4"), looks := false }, kinds := [], alts := [], laidByText := true, laidKinds := [.data, .data, .data], laidTests := true, laidLooks := .later }
def PedersenDrawsUptoCardSaid : Prop := Claim7.holds Tryz.pinned (.plain (OpenSpec.upto pedersenDrawsSpec)) pedersenDrawsUptoCard

/-- THE SECOND FORM's CARD OF 'dominolaw33.SchnorrMakes'. -/
def schnorrMakesUptoCard : Claim7 := { stood := { row := schnorrMakesUptoRow, standIns := [], harness := (true, "e26f402273e4eedb0710ea3ca5b95852d7e57a41b44801014f2f1be352b320a4"), looks := false }, kinds := [], alts := [], laidByText := true, laidKinds := [.data, .data, .data], laidTests := true, laidLooks := .later }
def SchnorrMakesUptoCardSaid : Prop := Claim7.holds Tryz.pinned (.plain (OpenSpec.upto schnorrMakesSpec)) schnorrMakesUptoCard

/-- THE SECOND FORM's CARD OF 'dominolaw33.SchnorrSecrets'. -/
def schnorrSecretsUptoCard : Claim7 := { stood := { row := schnorrSecretsUptoRow, standIns := [], harness := (true, "e26f402273e4eedb0710ea3ca5b95852d7e57a41b44801014f2f1be352b320a4"), looks := false }, kinds := [], alts := [], laidByText := true, laidKinds := [.data, .data, .data], laidTests := true, laidLooks := .later }
def SchnorrSecretsUptoCardSaid : Prop := Claim7.holds Tryz.pinned (.plain (OpenSpec.upto schnorrSecretsSpec)) schnorrSecretsUptoCard
end Rows
end Go.Proofs.YtpdejgdkpghjhaaGreatDoor
