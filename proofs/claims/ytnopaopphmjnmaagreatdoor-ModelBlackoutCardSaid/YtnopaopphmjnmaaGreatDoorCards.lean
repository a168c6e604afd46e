/-
  DERIVED. GIVEN WITH THE SEED: THE CARDS: each row of YtnopaopphmjnmaaGreatDoorRows.lean that lists a variable, with what it lists TIED to the program's text (the seventh form; the later family's looks); each row that meets fmt, with fmt's text TOLD by the authors' own Lean function (tested against real Go, not proved from fmt's source: count such statements apart). THE CARD IS WHAT COUNTS. Prove the row's statement (the work); the ties are given (YtnopaopphmjnmaaGreatDoorTie.lean); close each card by the builder's one call (the guide's Derived/Test/ToyasCard.lean, 'card_holds'). Laid BY PROGRAM, IN A SANDBOX (cutbox-door.mjs). By AI agents, Wed Nov 11 2026. No macro, syntax, notation, axiom, sorry.
-/
import Derived.Test.YtnopaopphmjnmaaGreatDoorRows
import GoSem.ClaimSeven
namespace Go.Proofs.YtnopaopphmjnmaaGreatDoor
namespace Rows

/-- THE TIED CARD OF 'onairlaw29.ModelMatchesReference'. -/
def modelMatchesReferenceCard : Claim7 := { stood := { row := modelMatchesReferenceRow, standIns := [], harness := (true, "fcd00cb50b3f055cc417d6640ad21b984ba35a658f2bd4ad0bf71b7b0ada049f"), looks := true }, kinds := [], alts := [], laidByText := true, laidKinds := [.data], laidTests := true, laidLooks := .later }
def ModelMatchesReferenceCardSaid : Prop := Claim7.holds Tryz.pinned (.plain (OpenSpec.ofChange modelMatchesReferenceSpec)) modelMatchesReferenceCard

/-- THE TIED CARD OF 'onairlaw29.ModelAllows'. -/
def modelAllowsCard : Claim7 := { stood := { row := modelAllowsRow, standIns := [], harness := (true, "fcd00cb50b3f055cc417d6640ad21b984ba35a658f2bd4ad0bf71b7b0ada049f"), looks := true }, kinds := [], alts := [], laidByText := true, laidKinds := [.data], laidTests := true, laidLooks := .later }
def ModelAllowsCardSaid : Prop := Claim7.holds Tryz.pinned (.plain (OpenSpec.ofChange modelAllowsSpec)) modelAllowsCard

/-- THE TIED CARD OF 'onairlaw29.ModelPermitted'. -/
def modelPermittedCard : Claim7 := { stood := { row := modelPermittedRow, standIns := [], harness := (true, "fcd00cb50b3f055cc417d6640ad21b984ba35a658f2bd4ad0bf71b7b0ada049f"), looks := true }, kinds := [], alts := [], laidByText := true, laidKinds := [.data], laidTests := true, laidLooks := .later }
def ModelPermittedCardSaid : Prop := Claim7.holds Tryz.pinned (.plain (OpenSpec.ofChange modelPermittedSpec)) modelPermittedCard

/-- THE TIED CARD OF 'onairlaw29.ModelOne'. -/
def modelOneCard : Claim7 := { stood := { row := modelOneRow, standIns := [], harness := (true, "fcd00cb50b3f055cc417d6640ad21b984ba35a658f2bd4ad0bf71b7b0ada049f"), looks := true }, kinds := [], alts := [], laidByText := true, laidKinds := [.data], laidTests := true, laidLooks := .later }
def ModelOneCardSaid : Prop := Claim7.holds Tryz.pinned (.plain (OpenSpec.ofChange modelOneSpec)) modelOneCard

/-- THE TIED CARD OF 'onairlaw29.ModelEarlier'. -/
def modelEarlierCard : Claim7 := { stood := { row := modelEarlierRow, standIns := [], harness := (true, "fcd00cb50b3f055cc417d6640ad21b984ba35a658f2bd4ad0bf71b7b0ada049f"), looks := true }, kinds := [], alts := [], laidByText := true, laidKinds := [.data], laidTests := true, laidLooks := .later }
def ModelEarlierCardSaid : Prop := Claim7.holds Tryz.pinned (.plain (OpenSpec.ofChange modelEarlierSpec)) modelEarlierCard

/-- THE TIED CARD OF 'onairlaw29.ModelRefuses'. -/
def modelRefusesCard : Claim7 := { stood := { row := modelRefusesRow, standIns := [], harness := (true, "fcd00cb50b3f055cc417d6640ad21b984ba35a658f2bd4ad0bf71b7b0ada049f"), looks := true }, kinds := [], alts := [], laidByText := true, laidKinds := [.data], laidTests := true, laidLooks := .later }
def ModelRefusesCardSaid : Prop := Claim7.holds Tryz.pinned (.plain (OpenSpec.ofChange modelRefusesSpec)) modelRefusesCard

/-- THE TIED CARD OF 'onairlaw29.ModelBlackout'. -/
def modelBlackoutCard : Claim7 := { stood := { row := modelBlackoutRow, standIns := [], harness := (true, "fcd00cb50b3f055cc417d6640ad21b984ba35a658f2bd4ad0bf71b7b0ada049f"), looks := true }, kinds := [], alts := [], laidByText := true, laidKinds := [.data], laidTests := true, laidLooks := .later }
def ModelBlackoutCardSaid : Prop := Claim7.holds Tryz.pinned (.plain (OpenSpec.ofChange modelBlackoutSpec)) modelBlackoutCard

/-- THE TIED CARD OF 'onairlaw29.ModelPrograms'. -/
def modelProgramsCard : Claim7 := { stood := { row := modelProgramsRow, standIns := [], harness := (true, "fcd00cb50b3f055cc417d6640ad21b984ba35a658f2bd4ad0bf71b7b0ada049f"), looks := true }, kinds := [], alts := [], laidByText := true, laidKinds := [.data], laidTests := true, laidLooks := .later }
def ModelProgramsCardSaid : Prop := Claim7.holds Tryz.pinned (.plain (OpenSpec.ofChange modelProgramsSpec)) modelProgramsCard

/-- THE SECOND FORM's CARD OF 'onairlaw29.ModelMatchesReference'. -/
def modelMatchesReferenceUptoCard : Claim7 := { stood := { row := modelMatchesReferenceUptoRow, standIns := [], harness := (true, "fcd00cb50b3f055cc417d6640ad21b984ba35a658f2bd4ad0bf71b7b0ada049f"), looks := true }, kinds := [], alts := [], laidByText := true, laidKinds := [.data], laidTests := true, laidLooks := .later }
def ModelMatchesReferenceUptoCardSaid : Prop := Claim7.holds Tryz.pinned (.plain (OpenSpec.upto modelMatchesReferenceSpec)) modelMatchesReferenceUptoCard

/-- THE SECOND FORM's CARD OF 'onairlaw29.ModelAllows'. -/
def modelAllowsUptoCard : Claim7 := { stood := { row := modelAllowsUptoRow, standIns := [], harness := (true, "fcd00cb50b3f055cc417d6640ad21b984ba35a658f2bd4ad0bf71b7b0ada049f"), looks := true }, kinds := [], alts := [], laidByText := true, laidKinds := [.data], laidTests := true, laidLooks := .later }
def ModelAllowsUptoCardSaid : Prop := Claim7.holds Tryz.pinned (.plain (OpenSpec.upto modelAllowsSpec)) modelAllowsUptoCard

/-- THE SECOND FORM's CARD OF 'onairlaw29.ModelPermitted'. -/
def modelPermittedUptoCard : Claim7 := { stood := { row := modelPermittedUptoRow, standIns := [], harness := (true, "fcd00cb50b3f055cc417d6640ad21b984ba35a658f2bd4ad0bf71b7b0ada049f"), looks := true }, kinds := [], alts := [], laidByText := true, laidKinds := [.data], laidTests := true, laidLooks := .later }
def ModelPermittedUptoCardSaid : Prop := Claim7.holds Tryz.pinned (.plain (OpenSpec.upto modelPermittedSpec)) modelPermittedUptoCard

/-- THE SECOND FORM's CARD OF 'onairlaw29.ModelOne'. -/
def modelOneUptoCard : Claim7 := { stood := { row := modelOneUptoRow, standIns := [], harness := (true, "fcd00cb50b3f055cc417d6640ad21b984ba35a658f2bd4ad0bf71b7b0ada049f"), looks := true }, kinds := [], alts := [], laidByText := true, laidKinds := [.data], laidTests := true, laidLooks := .later }
def ModelOneUptoCardSaid : Prop := Claim7.holds Tryz.pinned (.plain (OpenSpec.upto modelOneSpec)) modelOneUptoCard

/-- THE SECOND FORM's CARD OF 'onairlaw29.ModelEarlier'. -/
def modelEarlierUptoCard : Claim7 := { stood := { row := modelEarlierUptoRow, standIns := [], harness := (true, "fcd00cb50b3f055cc417d6640ad21b984ba35a658f2bd4ad0bf71b7b0ada049f"), looks := true }, kinds := [], alts := [], laidByText := true, laidKinds := [.data], laidTests := true, laidLooks := .later }
def ModelEarlierUptoCardSaid : Prop := Claim7.holds Tryz.pinned (.plain (OpenSpec.upto modelEarlierSpec)) modelEarlierUptoCard

/-- THE SECOND FORM's CARD OF 'onairlaw29.ModelRefuses'. -/
def modelRefusesUptoCard : Claim7 := { stood := { row := modelRefusesUptoRow, standIns := [], harness := (true, "fcd00cb50b3f055cc417d6640ad21b984ba35a658f2bd4ad0bf71b7b0ada049f"), looks := true }, kinds := [], alts := [], laidByText := true, laidKinds := [.data], laidTests := true, laidLooks := .later }
def ModelRefusesUptoCardSaid : Prop := Claim7.holds Tryz.pinned (.plain (OpenSpec.upto modelRefusesSpec)) modelRefusesUptoCard

/-- THE SECOND FORM's CARD OF 'onairlaw29.ModelBlackout'. -/
def modelBlackoutUptoCard : Claim7 := { stood := { row := modelBlackoutUptoRow, standIns := [], harness := (true, "fcd00cb50b3f055cc417d6640ad21b984ba35a658f2bd4ad0bf71b7b0ada049f"), looks := true }, kinds := [], alts := [], laidByText := true, laidKinds := [.data], laidTests := true, laidLooks := .later }
def ModelBlackoutUptoCardSaid : Prop := Claim7.holds Tryz.pinned (.plain (OpenSpec.upto modelBlackoutSpec)) modelBlackoutUptoCard

/-- THE SECOND FORM's CARD OF 'onairlaw29.ModelPrograms'. -/
def modelProgramsUptoCard : Claim7 := { stood := { row := modelProgramsUptoRow, standIns := [], harness := (true, "fcd00cb50b3f055cc417d6640ad21b984ba35a658f2bd4ad0bf71b7b0ada049f"), looks := true }, kinds := [], alts := [], laidByText := true, laidKinds := [.data], laidTests := true, laidLooks := .later }
def ModelProgramsUptoCardSaid : Prop := Claim7.holds Tryz.pinned (.plain (OpenSpec.upto modelProgramsSpec)) modelProgramsUptoCard
end Rows
end Go.Proofs.YtnopaopphmjnmaaGreatDoor
