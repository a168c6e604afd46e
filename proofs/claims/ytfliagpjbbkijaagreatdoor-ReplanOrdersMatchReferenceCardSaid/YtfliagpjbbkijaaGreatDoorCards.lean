/-
  DERIVED. GIVEN WITH THE SEED: THE CARDS: each row of YtfliagpjbbkijaaGreatDoorRows.lean that lists a variable, with what it lists TIED to the program's text (the seventh form; the later family's looks); each row that meets fmt, with fmt's text TOLD by the authors' own Lean function (tested against real Go, not proved from fmt's source: count such statements apart). THE CARD IS WHAT COUNTS. Prove the row's statement (the work); the ties are given (YtfliagpjbbkijaaGreatDoorTie.lean); close each card by the builder's one call (the guide's Derived/Test/ToyasCard.lean, 'card_holds'). Laid BY PROGRAM, IN A SANDBOX (cutbox-door.mjs). By AI agents, Wed Nov 11 2026. No macro, syntax, notation, axiom, sorry.
-/
import Derived.Test.YtfliagpjbbkijaaGreatDoorRows
import GoSem.ClaimSeven
namespace Go.Proofs.YtfliagpjbbkijaaGreatDoor
namespace Rows

/-- THE TIED CARD OF 'onairlaw15.ReplanRoundTrip'. -/
def replanRoundTripCard : Claim7 := { stood := { row := replanRoundTripRow, standIns := [], harness := (true, "ad1806f224c4b082dbf46da28ad9da447c38d9e94ff6bafadc35b2359e62d26a"), looks := true }, kinds := [], alts := [], laidByText := true, laidKinds := [.data, .sentinel, .sentinel], laidTests := true, laidLooks := .later }
def ReplanRoundTripCardSaid : Prop := Claim7.holds Tryz.pinned (.plain (OpenSpec.ofChange replanRoundTripSpec)) replanRoundTripCard

/-- THE TIED CARD OF 'onairlaw15.ReplanDecodedAgain'. -/
def replanDecodedAgainCard : Claim7 := { stood := { row := replanDecodedAgainRow, standIns := [], harness := (true, "ad1806f224c4b082dbf46da28ad9da447c38d9e94ff6bafadc35b2359e62d26a"), looks := true }, kinds := [], alts := [], laidByText := true, laidKinds := [.data, .sentinel, .sentinel], laidTests := true, laidLooks := .later }
def ReplanDecodedAgainCardSaid : Prop := Claim7.holds Tryz.pinned (.plain (OpenSpec.ofChange replanDecodedAgainSpec)) replanDecodedAgainCard

/-- THE TIED CARD OF 'onairlaw15.ReplanOrdersMatchReference'. -/
def replanOrdersMatchReferenceCard : Claim7 := { stood := { row := replanOrdersMatchReferenceRow, standIns := [], harness := (true, "ad1806f224c4b082dbf46da28ad9da447c38d9e94ff6bafadc35b2359e62d26a"), looks := true }, kinds := [], alts := [], laidByText := true, laidKinds := [.data, .sentinel, .sentinel], laidTests := true, laidLooks := .later }
def ReplanOrdersMatchReferenceCardSaid : Prop := Claim7.holds Tryz.pinned (.plain (OpenSpec.ofChange replanOrdersMatchReferenceSpec)) replanOrdersMatchReferenceCard

/-- THE SECOND FORM's CARD OF 'onairlaw15.ReplanRoundTrip'. -/
def replanRoundTripUptoCard : Claim7 := { stood := { row := replanRoundTripUptoRow, standIns := [], harness := (true, "ad1806f224c4b082dbf46da28ad9da447c38d9e94ff6bafadc35b2359e62d26a"), looks := true }, kinds := [], alts := [], laidByText := true, laidKinds := [.data, .sentinel, .sentinel], laidTests := true, laidLooks := .later }
def ReplanRoundTripUptoCardSaid : Prop := Claim7.holds Tryz.pinned (.plain (OpenSpec.upto replanRoundTripSpec)) replanRoundTripUptoCard

/-- THE SECOND FORM's CARD OF 'onairlaw15.ReplanDecodedAgain'. -/
def replanDecodedAgainUptoCard : Claim7 := { stood := { row := replanDecodedAgainUptoRow, standIns := [], harness := (true, "ad1806f224c4b082dbf46da28ad9da447c38d9e94ff6bafadc35b2359e62d26a"), looks := true }, kinds := [], alts := [], laidByText := true, laidKinds := [.data, .sentinel, .sentinel], laidTests := true, laidLooks := .later }
def ReplanDecodedAgainUptoCardSaid : Prop := Claim7.holds Tryz.pinned (.plain (OpenSpec.upto replanDecodedAgainSpec)) replanDecodedAgainUptoCard

/-- THE SECOND FORM's CARD OF 'onairlaw15.ReplanOrdersMatchReference'. -/
def replanOrdersMatchReferenceUptoCard : Claim7 := { stood := { row := replanOrdersMatchReferenceUptoRow, standIns := [], harness := (true, "ad1806f224c4b082dbf46da28ad9da447c38d9e94ff6bafadc35b2359e62d26a"), looks := true }, kinds := [], alts := [], laidByText := true, laidKinds := [.data, .sentinel, .sentinel], laidTests := true, laidLooks := .later }
def ReplanOrdersMatchReferenceUptoCardSaid : Prop := Claim7.holds Tryz.pinned (.plain (OpenSpec.upto replanOrdersMatchReferenceSpec)) replanOrdersMatchReferenceUptoCard
end Rows
end Go.Proofs.YtfliagpjbbkijaaGreatDoor
