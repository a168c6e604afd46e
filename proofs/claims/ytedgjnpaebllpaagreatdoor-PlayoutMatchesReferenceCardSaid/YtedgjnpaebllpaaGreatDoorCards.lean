/-
  DERIVED. GIVEN WITH THE SEED: THE CARDS: each row of YtedgjnpaebllpaaGreatDoorRows.lean that lists a variable, with what it lists TIED to the program's text (the seventh form; the later family's looks); each row that meets fmt, with fmt's text TOLD by the authors' own Lean function (tested against real Go, not proved from fmt's source: count such statements apart). THE CARD IS WHAT COUNTS. Prove the row's statement (the work); the ties are given (YtedgjnpaebllpaaGreatDoorTie.lean); close each card by the builder's one call (the guide's Derived/Test/ToyasCard.lean, 'card_holds'). Laid BY PROGRAM, IN A SANDBOX (cutbox-door.mjs). By AI agents, Wed Nov 11 2026. No macro, syntax, notation, axiom, sorry.
-/
import Derived.Test.YtedgjnpaebllpaaGreatDoorRows
import GoSem.ClaimSeven
namespace Go.Proofs.YtedgjnpaebllpaaGreatDoor
namespace Rows

/-- THE TIED CARD OF 'onairlaw19.PlayoutMatchesReference'. -/
def playoutMatchesReferenceCard : Claim7 := { stood := { row := playoutMatchesReferenceRow, standIns := [], harness := (true, "a67dc2a987bb24dcc01c2090688d21e57ba16aa819c7e827664e9435721792fa"), looks := false }, kinds := [], alts := [], laidByText := true, laidKinds := [.data], laidTests := true, laidLooks := .later }
def PlayoutMatchesReferenceCardSaid : Prop := Claim7.holds Tryz.pinned (.plain (OpenSpec.ofChange playoutMatchesReferenceSpec)) playoutMatchesReferenceCard

/-- THE SECOND FORM's CARD OF 'onairlaw19.PlayoutMatchesReference'. -/
def playoutMatchesReferenceUptoCard : Claim7 := { stood := { row := playoutMatchesReferenceUptoRow, standIns := [], harness := (true, "a67dc2a987bb24dcc01c2090688d21e57ba16aa819c7e827664e9435721792fa"), looks := false }, kinds := [], alts := [], laidByText := true, laidKinds := [.data], laidTests := true, laidLooks := .later }
def PlayoutMatchesReferenceUptoCardSaid : Prop := Claim7.holds Tryz.pinned (.plain (OpenSpec.upto playoutMatchesReferenceSpec)) playoutMatchesReferenceUptoCard
end Rows
end Go.Proofs.YtedgjnpaebllpaaGreatDoor
