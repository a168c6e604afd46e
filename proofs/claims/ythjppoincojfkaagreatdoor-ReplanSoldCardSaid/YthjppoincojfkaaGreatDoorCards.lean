/-
  DERIVED. GIVEN WITH THE SEED: THE CARDS: each row of YthjppoincojfkaaGreatDoorRows.lean that lists a variable, with what it lists TIED to the program's text (the seventh form; the later family's looks); each row that meets fmt, with fmt's text TOLD by the authors' own Lean function (tested against real Go, not proved from fmt's source: count such statements apart). THE CARD IS WHAT COUNTS. Prove the row's statement (the work); the ties are given (YthjppoincojfkaaGreatDoorTie.lean); close each card by the builder's one call (the guide's Derived/Test/ToyasCard.lean, 'card_holds'). Laid BY PROGRAM, IN A SANDBOX (cutbox-door.mjs). By AI agents, Wed Nov 11 2026. No macro, syntax, notation, axiom, sorry.
-/
import Derived.Test.YthjppoincojfkaaGreatDoorRows
import GoSem.ClaimSeven
namespace Go.Proofs.YthjppoincojfkaaGreatDoor
namespace Rows

/-- THE TIED CARD OF 'onairlaw15.ReplanKeepsPast'. -/
def replanKeepsPastCard : Claim7 := { stood := { row := replanKeepsPastRow, standIns := [], harness := (true, "1a16cd81119f3fddb5f864b7bae386cf336c5709806c0142e0d413c85797a7ab"), looks := true }, kinds := [], alts := [], laidByText := true, laidKinds := [.data, .sentinel, .sentinel], laidTests := true, laidLooks := .later }
def ReplanKeepsPastCardSaid : Prop := Claim7.holds Tryz.pinned (.plain (OpenSpec.ofChange replanKeepsPastSpec)) replanKeepsPastCard

/-- THE TIED CARD OF 'onairlaw15.ReplanCovers'. -/
def replanCoversCard : Claim7 := { stood := { row := replanCoversRow, standIns := [], harness := (true, "1a16cd81119f3fddb5f864b7bae386cf336c5709806c0142e0d413c85797a7ab"), looks := true }, kinds := [], alts := [], laidByText := true, laidKinds := [.data, .sentinel, .sentinel], laidTests := true, laidLooks := .later }
def ReplanCoversCardSaid : Prop := Claim7.holds Tryz.pinned (.plain (OpenSpec.ofChange replanCoversSpec)) replanCoversCard

/-- THE TIED CARD OF 'onairlaw15.ReplanPermitted'. -/
def replanPermittedCard : Claim7 := { stood := { row := replanPermittedRow, standIns := [], harness := (true, "1a16cd81119f3fddb5f864b7bae386cf336c5709806c0142e0d413c85797a7ab"), looks := true }, kinds := [], alts := [], laidByText := true, laidKinds := [.data, .sentinel, .sentinel], laidTests := true, laidLooks := .later }
def ReplanPermittedCardSaid : Prop := Claim7.holds Tryz.pinned (.plain (OpenSpec.ofChange replanPermittedSpec)) replanPermittedCard

/-- THE TIED CARD OF 'onairlaw15.ReplanOnce'. -/
def replanOnceCard : Claim7 := { stood := { row := replanOnceRow, standIns := [], harness := (true, "1a16cd81119f3fddb5f864b7bae386cf336c5709806c0142e0d413c85797a7ab"), looks := true }, kinds := [], alts := [], laidByText := true, laidKinds := [.data, .sentinel, .sentinel], laidTests := true, laidLooks := .later }
def ReplanOnceCardSaid : Prop := Claim7.holds Tryz.pinned (.plain (OpenSpec.ofChange replanOnceSpec)) replanOnceCard

/-- THE TIED CARD OF 'onairlaw15.ReplanOthers'. -/
def replanOthersCard : Claim7 := { stood := { row := replanOthersRow, standIns := [], harness := (true, "1a16cd81119f3fddb5f864b7bae386cf336c5709806c0142e0d413c85797a7ab"), looks := true }, kinds := [], alts := [], laidByText := true, laidKinds := [.data, .sentinel, .sentinel], laidTests := true, laidLooks := .later }
def ReplanOthersCardSaid : Prop := Claim7.holds Tryz.pinned (.plain (OpenSpec.ofChange replanOthersSpec)) replanOthersCard

/-- THE TIED CARD OF 'onairlaw15.ReplanCues'. -/
def replanCuesCard : Claim7 := { stood := { row := replanCuesRow, standIns := [], harness := (true, "1a16cd81119f3fddb5f864b7bae386cf336c5709806c0142e0d413c85797a7ab"), looks := true }, kinds := [], alts := [], laidByText := true, laidKinds := [.data, .sentinel, .sentinel], laidTests := true, laidLooks := .later }
def ReplanCuesCardSaid : Prop := Claim7.holds Tryz.pinned (.plain (OpenSpec.ofChange replanCuesSpec)) replanCuesCard

/-- THE TIED CARD OF 'onairlaw15.ReplanBlackout'. -/
def replanBlackoutCard : Claim7 := { stood := { row := replanBlackoutRow, standIns := [], harness := (true, "1a16cd81119f3fddb5f864b7bae386cf336c5709806c0142e0d413c85797a7ab"), looks := true }, kinds := [], alts := [], laidByText := true, laidKinds := [.data, .sentinel, .sentinel], laidTests := true, laidLooks := .later }
def ReplanBlackoutCardSaid : Prop := Claim7.holds Tryz.pinned (.plain (OpenSpec.ofChange replanBlackoutSpec)) replanBlackoutCard

/-- THE TIED CARD OF 'onairlaw15.ReplanSold'. -/
def replanSoldCard : Claim7 := { stood := { row := replanSoldRow, standIns := [], harness := (true, "1a16cd81119f3fddb5f864b7bae386cf336c5709806c0142e0d413c85797a7ab"), looks := true }, kinds := [], alts := [], laidByText := true, laidKinds := [.data, .sentinel, .sentinel], laidTests := true, laidLooks := .later }
def ReplanSoldCardSaid : Prop := Claim7.holds Tryz.pinned (.plain (OpenSpec.ofChange replanSoldSpec)) replanSoldCard

/-- THE SECOND FORM's CARD OF 'onairlaw15.ReplanKeepsPast'. -/
def replanKeepsPastUptoCard : Claim7 := { stood := { row := replanKeepsPastUptoRow, standIns := [], harness := (true, "1a16cd81119f3fddb5f864b7bae386cf336c5709806c0142e0d413c85797a7ab"), looks := true }, kinds := [], alts := [], laidByText := true, laidKinds := [.data, .sentinel, .sentinel], laidTests := true, laidLooks := .later }
def ReplanKeepsPastUptoCardSaid : Prop := Claim7.holds Tryz.pinned (.plain (OpenSpec.upto replanKeepsPastSpec)) replanKeepsPastUptoCard

/-- THE SECOND FORM's CARD OF 'onairlaw15.ReplanCovers'. -/
def replanCoversUptoCard : Claim7 := { stood := { row := replanCoversUptoRow, standIns := [], harness := (true, "1a16cd81119f3fddb5f864b7bae386cf336c5709806c0142e0d413c85797a7ab"), looks := true }, kinds := [], alts := [], laidByText := true, laidKinds := [.data, .sentinel, .sentinel], laidTests := true, laidLooks := .later }
def ReplanCoversUptoCardSaid : Prop := Claim7.holds Tryz.pinned (.plain (OpenSpec.upto replanCoversSpec)) replanCoversUptoCard

/-- THE SECOND FORM's CARD OF 'onairlaw15.ReplanPermitted'. -/
def replanPermittedUptoCard : Claim7 := { stood := { row := replanPermittedUptoRow, standIns := [], harness := (true, "1a16cd81119f3fddb5f864b7bae386cf336c5709806c0142e0d413c85797a7ab"), looks := true }, kinds := [], alts := [], laidByText := true, laidKinds := [.data, .sentinel, .sentinel], laidTests := true, laidLooks := .later }
def ReplanPermittedUptoCardSaid : Prop := Claim7.holds Tryz.pinned (.plain (OpenSpec.upto replanPermittedSpec)) replanPermittedUptoCard

/-- THE SECOND FORM's CARD OF 'onairlaw15.ReplanOnce'. -/
def replanOnceUptoCard : Claim7 := { stood := { row := replanOnceUptoRow, standIns := [], harness := (true, "1a16cd81119f3fddb5f864b7bae386cf336c5709806c0142e0d413c85797a7ab"), looks := true }, kinds := [], alts := [], laidByText := true, laidKinds := [.data, .sentinel, .sentinel], laidTests := true, laidLooks := .later }
def ReplanOnceUptoCardSaid : Prop := Claim7.holds Tryz.pinned (.plain (OpenSpec.upto replanOnceSpec)) replanOnceUptoCard

/-- THE SECOND FORM's CARD OF 'onairlaw15.ReplanOthers'. -/
def replanOthersUptoCard : Claim7 := { stood := { row := replanOthersUptoRow, standIns := [], harness := (true, "1a16cd81119f3fddb5f864b7bae386cf336c5709806c0142e0d413c85797a7ab"), looks := true }, kinds := [], alts := [], laidByText := true, laidKinds := [.data, .sentinel, .sentinel], laidTests := true, laidLooks := .later }
def ReplanOthersUptoCardSaid : Prop := Claim7.holds Tryz.pinned (.plain (OpenSpec.upto replanOthersSpec)) replanOthersUptoCard

/-- THE SECOND FORM's CARD OF 'onairlaw15.ReplanCues'. -/
def replanCuesUptoCard : Claim7 := { stood := { row := replanCuesUptoRow, standIns := [], harness := (true, "1a16cd81119f3fddb5f864b7bae386cf336c5709806c0142e0d413c85797a7ab"), looks := true }, kinds := [], alts := [], laidByText := true, laidKinds := [.data, .sentinel, .sentinel], laidTests := true, laidLooks := .later }
def ReplanCuesUptoCardSaid : Prop := Claim7.holds Tryz.pinned (.plain (OpenSpec.upto replanCuesSpec)) replanCuesUptoCard

/-- THE SECOND FORM's CARD OF 'onairlaw15.ReplanBlackout'. -/
def replanBlackoutUptoCard : Claim7 := { stood := { row := replanBlackoutUptoRow, standIns := [], harness := (true, "1a16cd81119f3fddb5f864b7bae386cf336c5709806c0142e0d413c85797a7ab"), looks := true }, kinds := [], alts := [], laidByText := true, laidKinds := [.data, .sentinel, .sentinel], laidTests := true, laidLooks := .later }
def ReplanBlackoutUptoCardSaid : Prop := Claim7.holds Tryz.pinned (.plain (OpenSpec.upto replanBlackoutSpec)) replanBlackoutUptoCard

/-- THE SECOND FORM's CARD OF 'onairlaw15.ReplanSold'. -/
def replanSoldUptoCard : Claim7 := { stood := { row := replanSoldUptoRow, standIns := [], harness := (true, "1a16cd81119f3fddb5f864b7bae386cf336c5709806c0142e0d413c85797a7ab"), looks := true }, kinds := [], alts := [], laidByText := true, laidKinds := [.data, .sentinel, .sentinel], laidTests := true, laidLooks := .later }
def ReplanSoldUptoCardSaid : Prop := Claim7.holds Tryz.pinned (.plain (OpenSpec.upto replanSoldSpec)) replanSoldUptoCard
end Rows
end Go.Proofs.YthjppoincojfkaaGreatDoor
