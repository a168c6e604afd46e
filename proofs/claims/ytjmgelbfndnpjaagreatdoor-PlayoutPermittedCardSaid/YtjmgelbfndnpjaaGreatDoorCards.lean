/-
  DERIVED. GIVEN WITH THE SEED: THE CARDS: each row of YtjmgelbfndnpjaaGreatDoorRows.lean that lists a variable, with what it lists TIED to the program's text (the seventh form; the later family's looks); each row that meets fmt, with fmt's text TOLD by the authors' own Lean function (tested against real Go, not proved from fmt's source: count such statements apart). THE CARD IS WHAT COUNTS. Prove the row's statement (the work); the ties are given (YtjmgelbfndnpjaaGreatDoorTie.lean); close each card by the builder's one call (the guide's Derived/Test/ToyasCard.lean, 'card_holds'). Laid BY PROGRAM, IN A SANDBOX (cutbox-door.mjs). By AI agents, Wed Nov 11 2026. No macro, syntax, notation, axiom, sorry.
-/
import Derived.Test.YtjmgelbfndnpjaaGreatDoorRows
import GoSem.ClaimSeven
namespace Go.Proofs.YtjmgelbfndnpjaaGreatDoor
namespace Rows

/-- THE TIED CARD OF 'onairlaw19.PlayoutPermitted'. -/
def playoutPermittedCard : Claim7 := { stood := { row := playoutPermittedRow, standIns := [], harness := (true, "be1ef5eddc6adcd0047cd3d1fe064c2d88c83cc6cb201e387732173313ead08e"), looks := true }, kinds := [], alts := [], laidByText := true, laidKinds := [.data, .data], laidTests := true, laidLooks := .later }
def PlayoutPermittedCardSaid : Prop := Claim7.holds Tryz.pinned (.plain (OpenSpec.ofChange playoutPermittedSpec)) playoutPermittedCard

/-- THE SECOND FORM's CARD OF 'onairlaw19.PlayoutPermitted'. -/
def playoutPermittedUptoCard : Claim7 := { stood := { row := playoutPermittedUptoRow, standIns := [], harness := (true, "be1ef5eddc6adcd0047cd3d1fe064c2d88c83cc6cb201e387732173313ead08e"), looks := true }, kinds := [], alts := [], laidByText := true, laidKinds := [.data, .data], laidTests := true, laidLooks := .later }
def PlayoutPermittedUptoCardSaid : Prop := Claim7.holds Tryz.pinned (.plain (OpenSpec.upto playoutPermittedSpec)) playoutPermittedUptoCard
end Rows
end Go.Proofs.YtjmgelbfndnpjaaGreatDoor
