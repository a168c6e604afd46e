/-
  DERIVED. GIVEN WITH THE SEED: THE CARDS: each row of YtedgjnpaebllpaaDoorRows.lean that lists a variable, with what it lists TIED to the program's text (the seventh form; the later family's looks); each row that meets fmt, with fmt's text TOLD by the authors' own Lean function (tested against real Go, not proved from fmt's source: count such statements apart). THE CARD IS WHAT COUNTS. Prove the row's statement (the work); the ties are given (YtedgjnpaebllpaaDoorTie.lean); close each card by the builder's one call (the guide's Derived/Test/ToyasCard.lean, 'card_holds'). Laid BY PROGRAM, IN A SANDBOX (cutbox-door.mjs). By AI agents, Wed Nov 11 2026. No macro, syntax, notation, axiom, sorry.
-/
import Derived.Test.YtedgjnpaebllpaaDoorRows
import GoSem.ClaimSeven
namespace Go.Proofs.YtedgjnpaebllpaaDoor
namespace Rows

/-- THE TIED CARD OF 'onairlaw19.PlayoutGenuineMatchesReference'. -/
def playoutGenuineMatchesReferenceCard : Claim7 := { stood := { row := playoutGenuineMatchesReferenceRow, standIns := [], harness := (true, "fc1eca474dc141c67d53685c71d241daa13051a6b2e7dafca8bbe0987b0403d7"), looks := false }, kinds := [], alts := [], laidByText := true, laidKinds := [.data], laidTests := true, laidLooks := .later }
def PlayoutGenuineMatchesReferenceCardSaid : Prop := Claim7.holds Tryd.pinned (.plain (OpenSpec.ofChange playoutGenuineMatchesReferenceSpec)) playoutGenuineMatchesReferenceCard

/-- THE TIED CARD OF 'onairlaw19.PlayoutGenuine'. -/
def playoutGenuineCard : Claim7 := { stood := { row := playoutGenuineRow, standIns := [], harness := (true, "fc1eca474dc141c67d53685c71d241daa13051a6b2e7dafca8bbe0987b0403d7"), looks := false }, kinds := [], alts := [], laidByText := true, laidKinds := [.data], laidTests := true, laidLooks := .later }
def PlayoutGenuineCardSaid : Prop := Claim7.holds Tryd.pinned (.plain (OpenSpec.ofChange playoutGenuineSpec)) playoutGenuineCard

/-- THE TIED CARD OF 'onairlaw19.PlayoutConsecutive'. -/
def playoutConsecutiveCard : Claim7 := { stood := { row := playoutConsecutiveRow, standIns := [], harness := (true, "fc1eca474dc141c67d53685c71d241daa13051a6b2e7dafca8bbe0987b0403d7"), looks := false }, kinds := [], alts := [], laidByText := true, laidKinds := [.data], laidTests := true, laidLooks := .later }
def PlayoutConsecutiveCardSaid : Prop := Claim7.holds Tryd.pinned (.plain (OpenSpec.ofChange playoutConsecutiveSpec)) playoutConsecutiveCard

/-- THE TIED CARD OF 'onairlaw19.PlayoutSmooth'. -/
def playoutSmoothCard : Claim7 := { stood := { row := playoutSmoothRow, standIns := [], harness := (true, "fc1eca474dc141c67d53685c71d241daa13051a6b2e7dafca8bbe0987b0403d7"), looks := false }, kinds := [], alts := [], laidByText := true, laidKinds := [.data], laidTests := true, laidLooks := .later }
def PlayoutSmoothCardSaid : Prop := Claim7.holds Tryd.pinned (.plain (OpenSpec.ofChange playoutSmoothSpec)) playoutSmoothCard

/-- THE TIED CARD OF 'onairlaw19.PlayoutPast'. -/
def playoutPastCard : Claim7 := { stood := { row := playoutPastRow, standIns := [], harness := (true, "fc1eca474dc141c67d53685c71d241daa13051a6b2e7dafca8bbe0987b0403d7"), looks := false }, kinds := [], alts := [], laidByText := true, laidKinds := [.data], laidTests := true, laidLooks := .later }
def PlayoutPastCardSaid : Prop := Claim7.holds Tryd.pinned (.plain (OpenSpec.ofChange playoutPastSpec)) playoutPastCard

/-- THE SECOND FORM's CARD OF 'onairlaw19.PlayoutGenuineMatchesReference'. -/
def playoutGenuineMatchesReferenceUptoCard : Claim7 := { stood := { row := playoutGenuineMatchesReferenceUptoRow, standIns := [], harness := (true, "fc1eca474dc141c67d53685c71d241daa13051a6b2e7dafca8bbe0987b0403d7"), looks := false }, kinds := [], alts := [], laidByText := true, laidKinds := [.data], laidTests := true, laidLooks := .later }
def PlayoutGenuineMatchesReferenceUptoCardSaid : Prop := Claim7.holds Tryd.pinned (.plain (OpenSpec.upto playoutGenuineMatchesReferenceSpec)) playoutGenuineMatchesReferenceUptoCard

/-- THE SECOND FORM's CARD OF 'onairlaw19.PlayoutGenuine'. -/
def playoutGenuineUptoCard : Claim7 := { stood := { row := playoutGenuineUptoRow, standIns := [], harness := (true, "fc1eca474dc141c67d53685c71d241daa13051a6b2e7dafca8bbe0987b0403d7"), looks := false }, kinds := [], alts := [], laidByText := true, laidKinds := [.data], laidTests := true, laidLooks := .later }
def PlayoutGenuineUptoCardSaid : Prop := Claim7.holds Tryd.pinned (.plain (OpenSpec.upto playoutGenuineSpec)) playoutGenuineUptoCard

/-- THE SECOND FORM's CARD OF 'onairlaw19.PlayoutConsecutive'. -/
def playoutConsecutiveUptoCard : Claim7 := { stood := { row := playoutConsecutiveUptoRow, standIns := [], harness := (true, "fc1eca474dc141c67d53685c71d241daa13051a6b2e7dafca8bbe0987b0403d7"), looks := false }, kinds := [], alts := [], laidByText := true, laidKinds := [.data], laidTests := true, laidLooks := .later }
def PlayoutConsecutiveUptoCardSaid : Prop := Claim7.holds Tryd.pinned (.plain (OpenSpec.upto playoutConsecutiveSpec)) playoutConsecutiveUptoCard

/-- THE SECOND FORM's CARD OF 'onairlaw19.PlayoutSmooth'. -/
def playoutSmoothUptoCard : Claim7 := { stood := { row := playoutSmoothUptoRow, standIns := [], harness := (true, "fc1eca474dc141c67d53685c71d241daa13051a6b2e7dafca8bbe0987b0403d7"), looks := false }, kinds := [], alts := [], laidByText := true, laidKinds := [.data], laidTests := true, laidLooks := .later }
def PlayoutSmoothUptoCardSaid : Prop := Claim7.holds Tryd.pinned (.plain (OpenSpec.upto playoutSmoothSpec)) playoutSmoothUptoCard

/-- THE SECOND FORM's CARD OF 'onairlaw19.PlayoutPast'. -/
def playoutPastUptoCard : Claim7 := { stood := { row := playoutPastUptoRow, standIns := [], harness := (true, "fc1eca474dc141c67d53685c71d241daa13051a6b2e7dafca8bbe0987b0403d7"), looks := false }, kinds := [], alts := [], laidByText := true, laidKinds := [.data], laidTests := true, laidLooks := .later }
def PlayoutPastUptoCardSaid : Prop := Claim7.holds Tryd.pinned (.plain (OpenSpec.upto playoutPastSpec)) playoutPastUptoCard
end Rows
end Go.Proofs.YtedgjnpaebllpaaDoor
