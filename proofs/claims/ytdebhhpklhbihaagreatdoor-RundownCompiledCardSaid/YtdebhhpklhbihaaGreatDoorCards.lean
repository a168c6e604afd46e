/-
  DERIVED. GIVEN WITH THE SEED: THE CARDS: each row of YtdebhhpklhbihaaGreatDoorRows.lean that lists a variable, with what it lists TIED to the program's text (the seventh form; the later family's looks); each row that meets fmt, with fmt's text TOLD by the authors' own Lean function (tested against real Go, not proved from fmt's source: count such statements apart). THE CARD IS WHAT COUNTS. Prove the row's statement (the work); the ties are given (YtdebhhpklhbihaaGreatDoorTie.lean); close each card by the builder's one call (the guide's Derived/Test/ToyasCard.lean, 'card_holds'). Laid BY PROGRAM, IN A SANDBOX (cutbox-door.mjs). By AI agents, Wed Nov 11 2026. No macro, syntax, notation, axiom, sorry.
-/
import Derived.Test.YtdebhhpklhbihaaGreatDoorRows
import GoSem.ClaimSeven
namespace Go.Proofs.YtdebhhpklhbihaaGreatDoor
namespace Rows

/-- THE TIED CARD OF 'onairlaw10.RundownGapless'. -/
def rundownGaplessCard : Claim7 := { stood := { row := rundownGaplessRow, standIns := [], harness := (true, "b06b176bb04fdbf0862cf8b9080fab87ebbeff8124e016e68706f835e7e7e74c"), looks := true }, kinds := [], alts := [], laidByText := true, laidKinds := [.data], laidTests := true, laidLooks := .later }
def RundownGaplessCardSaid : Prop := Claim7.holds Tryz.pinned (.plain (OpenSpec.ofChange rundownGaplessSpec)) rundownGaplessCard

/-- THE TIED CARD OF 'onairlaw10.RundownRights'. -/
def rundownRightsCard : Claim7 := { stood := { row := rundownRightsRow, standIns := [], harness := (true, "b06b176bb04fdbf0862cf8b9080fab87ebbeff8124e016e68706f835e7e7e74c"), looks := true }, kinds := [], alts := [], laidByText := true, laidKinds := [.data], laidTests := true, laidLooks := .later }
def RundownRightsCardSaid : Prop := Claim7.holds Tryz.pinned (.plain (OpenSpec.ofChange rundownRightsSpec)) rundownRightsCard

/-- THE TIED CARD OF 'onairlaw10.RundownBefore'. -/
def rundownBeforeCard : Claim7 := { stood := { row := rundownBeforeRow, standIns := [], harness := (true, "b06b176bb04fdbf0862cf8b9080fab87ebbeff8124e016e68706f835e7e7e74c"), looks := true }, kinds := [], alts := [], laidByText := true, laidKinds := [.data], laidTests := true, laidLooks := .later }
def RundownBeforeCardSaid : Prop := Claim7.holds Tryz.pinned (.plain (OpenSpec.ofChange rundownBeforeSpec)) rundownBeforeCard

/-- THE TIED CARD OF 'onairlaw10.RundownItems'. -/
def rundownItemsCard : Claim7 := { stood := { row := rundownItemsRow, standIns := [], harness := (true, "b06b176bb04fdbf0862cf8b9080fab87ebbeff8124e016e68706f835e7e7e74c"), looks := true }, kinds := [], alts := [], laidByText := true, laidKinds := [.data], laidTests := true, laidLooks := .later }
def RundownItemsCardSaid : Prop := Claim7.holds Tryz.pinned (.plain (OpenSpec.ofChange rundownItemsSpec)) rundownItemsCard

/-- THE TIED CARD OF 'onairlaw10.RundownCompiled'. -/
def rundownCompiledCard : Claim7 := { stood := { row := rundownCompiledRow, standIns := [], harness := (true, "b06b176bb04fdbf0862cf8b9080fab87ebbeff8124e016e68706f835e7e7e74c"), looks := true }, kinds := [], alts := [], laidByText := true, laidKinds := [.data], laidTests := true, laidLooks := .later }
def RundownCompiledCardSaid : Prop := Claim7.holds Tryz.pinned (.plain (OpenSpec.ofChange rundownCompiledSpec)) rundownCompiledCard

/-- THE TIED CARD OF 'onairlaw19.PlayoutPermitted'. -/
def playoutPermittedCard : Claim7 := { stood := { row := playoutPermittedRow, standIns := [], harness := (true, "b06b176bb04fdbf0862cf8b9080fab87ebbeff8124e016e68706f835e7e7e74c"), looks := true }, kinds := [], alts := [], laidByText := true, laidKinds := [.data, .data], laidTests := true, laidLooks := .later }
def PlayoutPermittedCardSaid : Prop := Claim7.holds Tryz.pinned (.plain (OpenSpec.ofChange playoutPermittedSpec)) playoutPermittedCard

/-- THE SECOND FORM's CARD OF 'onairlaw10.RundownGapless'. -/
def rundownGaplessUptoCard : Claim7 := { stood := { row := rundownGaplessUptoRow, standIns := [], harness := (true, "b06b176bb04fdbf0862cf8b9080fab87ebbeff8124e016e68706f835e7e7e74c"), looks := true }, kinds := [], alts := [], laidByText := true, laidKinds := [.data], laidTests := true, laidLooks := .later }
def RundownGaplessUptoCardSaid : Prop := Claim7.holds Tryz.pinned (.plain (OpenSpec.upto rundownGaplessSpec)) rundownGaplessUptoCard

/-- THE SECOND FORM's CARD OF 'onairlaw10.RundownRights'. -/
def rundownRightsUptoCard : Claim7 := { stood := { row := rundownRightsUptoRow, standIns := [], harness := (true, "b06b176bb04fdbf0862cf8b9080fab87ebbeff8124e016e68706f835e7e7e74c"), looks := true }, kinds := [], alts := [], laidByText := true, laidKinds := [.data], laidTests := true, laidLooks := .later }
def RundownRightsUptoCardSaid : Prop := Claim7.holds Tryz.pinned (.plain (OpenSpec.upto rundownRightsSpec)) rundownRightsUptoCard

/-- THE SECOND FORM's CARD OF 'onairlaw10.RundownBefore'. -/
def rundownBeforeUptoCard : Claim7 := { stood := { row := rundownBeforeUptoRow, standIns := [], harness := (true, "b06b176bb04fdbf0862cf8b9080fab87ebbeff8124e016e68706f835e7e7e74c"), looks := true }, kinds := [], alts := [], laidByText := true, laidKinds := [.data], laidTests := true, laidLooks := .later }
def RundownBeforeUptoCardSaid : Prop := Claim7.holds Tryz.pinned (.plain (OpenSpec.upto rundownBeforeSpec)) rundownBeforeUptoCard

/-- THE SECOND FORM's CARD OF 'onairlaw10.RundownItems'. -/
def rundownItemsUptoCard : Claim7 := { stood := { row := rundownItemsUptoRow, standIns := [], harness := (true, "b06b176bb04fdbf0862cf8b9080fab87ebbeff8124e016e68706f835e7e7e74c"), looks := true }, kinds := [], alts := [], laidByText := true, laidKinds := [.data], laidTests := true, laidLooks := .later }
def RundownItemsUptoCardSaid : Prop := Claim7.holds Tryz.pinned (.plain (OpenSpec.upto rundownItemsSpec)) rundownItemsUptoCard

/-- THE SECOND FORM's CARD OF 'onairlaw10.RundownCompiled'. -/
def rundownCompiledUptoCard : Claim7 := { stood := { row := rundownCompiledUptoRow, standIns := [], harness := (true, "b06b176bb04fdbf0862cf8b9080fab87ebbeff8124e016e68706f835e7e7e74c"), looks := true }, kinds := [], alts := [], laidByText := true, laidKinds := [.data], laidTests := true, laidLooks := .later }
def RundownCompiledUptoCardSaid : Prop := Claim7.holds Tryz.pinned (.plain (OpenSpec.upto rundownCompiledSpec)) rundownCompiledUptoCard

/-- THE SECOND FORM's CARD OF 'onairlaw19.PlayoutPermitted'. -/
def playoutPermittedUptoCard : Claim7 := { stood := { row := playoutPermittedUptoRow, standIns := [], harness := (true, "b06b176bb04fdbf0862cf8b9080fab87ebbeff8124e016e68706f835e7e7e74c"), looks := true }, kinds := [], alts := [], laidByText := true, laidKinds := [.data, .data], laidTests := true, laidLooks := .later }
def PlayoutPermittedUptoCardSaid : Prop := Claim7.holds Tryz.pinned (.plain (OpenSpec.upto playoutPermittedSpec)) playoutPermittedUptoCard
end Rows
end Go.Proofs.YtdebhhpklhbihaaGreatDoor
