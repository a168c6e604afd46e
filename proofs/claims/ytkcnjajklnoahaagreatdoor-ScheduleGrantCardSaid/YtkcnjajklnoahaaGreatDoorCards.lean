/-
  DERIVED. GIVEN WITH THE SEED: THE CARDS: each row of YtkcnjajklnoahaaGreatDoorRows.lean that lists a variable, with what it lists TIED to the program's text (the seventh form; the later family's looks); each row that meets fmt, with fmt's text TOLD by the authors' own Lean function (tested against real Go, not proved from fmt's source: count such statements apart). THE CARD IS WHAT COUNTS. Prove the row's statement (the work); the ties are given (YtkcnjajklnoahaaGreatDoorTie.lean); close each card by the builder's one call (the guide's Derived/Test/ToyasCard.lean, 'card_holds'). Laid BY PROGRAM, IN A SANDBOX (cutbox-door.mjs). By AI agents, Wed Nov 11 2026. No macro, syntax, notation, axiom, sorry.
-/
import Derived.Test.YtkcnjajklnoahaaGreatDoorRows
import GoSem.ClaimSeven
namespace Go.Proofs.YtkcnjajklnoahaaGreatDoor
namespace Rows

/-- THE TIED CARD OF 'onairlaw09.ScheduleMatchesReference'. -/
def scheduleMatchesReferenceCard : Claim7 := { stood := { row := scheduleMatchesReferenceRow, standIns := [], harness := (true, "5ba5c5a99778ecb8c0f2dec7fe9d3ad94f00a66deeb8fff3bf8b5447596e4e44"), looks := true }, kinds := [], alts := [], laidByText := true, laidKinds := [.data], laidTests := true, laidLooks := .later }
def ScheduleMatchesReferenceCardSaid : Prop := Claim7.holds Tryz.pinned (.plain (OpenSpec.ofChange scheduleMatchesReferenceSpec)) scheduleMatchesReferenceCard

/-- THE TIED CARD OF 'onairlaw09.ScheduleConflictMatchesReference'. -/
def scheduleConflictMatchesReferenceCard : Claim7 := { stood := { row := scheduleConflictMatchesReferenceRow, standIns := [], harness := (true, "5ba5c5a99778ecb8c0f2dec7fe9d3ad94f00a66deeb8fff3bf8b5447596e4e44"), looks := true }, kinds := [], alts := [], laidByText := true, laidKinds := [.data], laidTests := true, laidLooks := .later }
def ScheduleConflictMatchesReferenceCardSaid : Prop := Claim7.holds Tryz.pinned (.plain (OpenSpec.ofChange scheduleConflictMatchesReferenceSpec)) scheduleConflictMatchesReferenceCard

/-- THE TIED CARD OF 'onairlaw09.ScheduleCompileMatchesReference'. -/
def scheduleCompileMatchesReferenceCard : Claim7 := { stood := { row := scheduleCompileMatchesReferenceRow, standIns := [], harness := (true, "5ba5c5a99778ecb8c0f2dec7fe9d3ad94f00a66deeb8fff3bf8b5447596e4e44"), looks := true }, kinds := [], alts := [], laidByText := true, laidKinds := [.data], laidTests := true, laidLooks := .later }
def ScheduleCompileMatchesReferenceCardSaid : Prop := Claim7.holds Tryz.pinned (.plain (OpenSpec.ofChange scheduleCompileMatchesReferenceSpec)) scheduleCompileMatchesReferenceCard

/-- THE TIED CARD OF 'onairlaw09.SchedulePart'. -/
def schedulePartCard : Claim7 := { stood := { row := schedulePartRow, standIns := [], harness := (true, "5ba5c5a99778ecb8c0f2dec7fe9d3ad94f00a66deeb8fff3bf8b5447596e4e44"), looks := true }, kinds := [], alts := [], laidByText := true, laidKinds := [.data], laidTests := true, laidLooks := .later }
def SchedulePartCardSaid : Prop := Claim7.holds Tryz.pinned (.plain (OpenSpec.ofChange schedulePartSpec)) schedulePartCard

/-- THE TIED CARD OF 'onairlaw09.ScheduleGrant'. -/
def scheduleGrantCard : Claim7 := { stood := { row := scheduleGrantRow, standIns := [], harness := (true, "5ba5c5a99778ecb8c0f2dec7fe9d3ad94f00a66deeb8fff3bf8b5447596e4e44"), looks := true }, kinds := [], alts := [], laidByText := true, laidKinds := [.data], laidTests := true, laidLooks := .later }
def ScheduleGrantCardSaid : Prop := Claim7.holds Tryz.pinned (.plain (OpenSpec.ofChange scheduleGrantSpec)) scheduleGrantCard

/-- THE TIED CARD OF 'onairlaw09.ScheduleConflict'. -/
def scheduleConflictCard : Claim7 := { stood := { row := scheduleConflictRow, standIns := [], harness := (true, "5ba5c5a99778ecb8c0f2dec7fe9d3ad94f00a66deeb8fff3bf8b5447596e4e44"), looks := true }, kinds := [], alts := [], laidByText := true, laidKinds := [.data], laidTests := true, laidLooks := .later }
def ScheduleConflictCardSaid : Prop := Claim7.holds Tryz.pinned (.plain (OpenSpec.ofChange scheduleConflictSpec)) scheduleConflictCard

/-- THE TIED CARD OF 'onairlaw09.ScheduleChoose'. -/
def scheduleChooseCard : Claim7 := { stood := { row := scheduleChooseRow, standIns := [], harness := (true, "5ba5c5a99778ecb8c0f2dec7fe9d3ad94f00a66deeb8fff3bf8b5447596e4e44"), looks := true }, kinds := [], alts := [], laidByText := true, laidKinds := [.data], laidTests := true, laidLooks := .later }
def ScheduleChooseCardSaid : Prop := Claim7.holds Tryz.pinned (.plain (OpenSpec.ofChange scheduleChooseSpec)) scheduleChooseCard

/-- THE TIED CARD OF 'onairlaw09.ScheduleBooked'. -/
def scheduleBookedCard : Claim7 := { stood := { row := scheduleBookedRow, standIns := [], harness := (true, "5ba5c5a99778ecb8c0f2dec7fe9d3ad94f00a66deeb8fff3bf8b5447596e4e44"), looks := true }, kinds := [], alts := [], laidByText := true, laidKinds := [.data], laidTests := true, laidLooks := .later }
def ScheduleBookedCardSaid : Prop := Claim7.holds Tryz.pinned (.plain (OpenSpec.ofChange scheduleBookedSpec)) scheduleBookedCard

/-- THE TIED CARD OF 'onairlaw09.ScheduleHolds'. -/
def scheduleHoldsCard : Claim7 := { stood := { row := scheduleHoldsRow, standIns := [], harness := (true, "5ba5c5a99778ecb8c0f2dec7fe9d3ad94f00a66deeb8fff3bf8b5447596e4e44"), looks := true }, kinds := [], alts := [], laidByText := true, laidKinds := [.data], laidTests := true, laidLooks := .later }
def ScheduleHoldsCardSaid : Prop := Claim7.holds Tryz.pinned (.plain (OpenSpec.ofChange scheduleHoldsSpec)) scheduleHoldsCard

/-- THE TIED CARD OF 'onairlaw09.ScheduleLeast'. -/
def scheduleLeastCard : Claim7 := { stood := { row := scheduleLeastRow, standIns := [], harness := (true, "5ba5c5a99778ecb8c0f2dec7fe9d3ad94f00a66deeb8fff3bf8b5447596e4e44"), looks := true }, kinds := [], alts := [], laidByText := true, laidKinds := [.data], laidTests := true, laidLooks := .later }
def ScheduleLeastCardSaid : Prop := Claim7.holds Tryz.pinned (.plain (OpenSpec.ofChange scheduleLeastSpec)) scheduleLeastCard

/-- THE TIED CARD OF 'onairlaw09.ScheduleCompiled'. -/
def scheduleCompiledCard : Claim7 := { stood := { row := scheduleCompiledRow, standIns := [], harness := (true, "5ba5c5a99778ecb8c0f2dec7fe9d3ad94f00a66deeb8fff3bf8b5447596e4e44"), looks := true }, kinds := [], alts := [], laidByText := true, laidKinds := [.data], laidTests := true, laidLooks := .later }
def ScheduleCompiledCardSaid : Prop := Claim7.holds Tryz.pinned (.plain (OpenSpec.ofChange scheduleCompiledSpec)) scheduleCompiledCard

/-- THE SECOND FORM's CARD OF 'onairlaw09.ScheduleMatchesReference'. -/
def scheduleMatchesReferenceUptoCard : Claim7 := { stood := { row := scheduleMatchesReferenceUptoRow, standIns := [], harness := (true, "5ba5c5a99778ecb8c0f2dec7fe9d3ad94f00a66deeb8fff3bf8b5447596e4e44"), looks := true }, kinds := [], alts := [], laidByText := true, laidKinds := [.data], laidTests := true, laidLooks := .later }
def ScheduleMatchesReferenceUptoCardSaid : Prop := Claim7.holds Tryz.pinned (.plain (OpenSpec.upto scheduleMatchesReferenceSpec)) scheduleMatchesReferenceUptoCard

/-- THE SECOND FORM's CARD OF 'onairlaw09.ScheduleConflictMatchesReference'. -/
def scheduleConflictMatchesReferenceUptoCard : Claim7 := { stood := { row := scheduleConflictMatchesReferenceUptoRow, standIns := [], harness := (true, "5ba5c5a99778ecb8c0f2dec7fe9d3ad94f00a66deeb8fff3bf8b5447596e4e44"), looks := true }, kinds := [], alts := [], laidByText := true, laidKinds := [.data], laidTests := true, laidLooks := .later }
def ScheduleConflictMatchesReferenceUptoCardSaid : Prop := Claim7.holds Tryz.pinned (.plain (OpenSpec.upto scheduleConflictMatchesReferenceSpec)) scheduleConflictMatchesReferenceUptoCard

/-- THE SECOND FORM's CARD OF 'onairlaw09.ScheduleCompileMatchesReference'. -/
def scheduleCompileMatchesReferenceUptoCard : Claim7 := { stood := { row := scheduleCompileMatchesReferenceUptoRow, standIns := [], harness := (true, "5ba5c5a99778ecb8c0f2dec7fe9d3ad94f00a66deeb8fff3bf8b5447596e4e44"), looks := true }, kinds := [], alts := [], laidByText := true, laidKinds := [.data], laidTests := true, laidLooks := .later }
def ScheduleCompileMatchesReferenceUptoCardSaid : Prop := Claim7.holds Tryz.pinned (.plain (OpenSpec.upto scheduleCompileMatchesReferenceSpec)) scheduleCompileMatchesReferenceUptoCard

/-- THE SECOND FORM's CARD OF 'onairlaw09.SchedulePart'. -/
def schedulePartUptoCard : Claim7 := { stood := { row := schedulePartUptoRow, standIns := [], harness := (true, "5ba5c5a99778ecb8c0f2dec7fe9d3ad94f00a66deeb8fff3bf8b5447596e4e44"), looks := true }, kinds := [], alts := [], laidByText := true, laidKinds := [.data], laidTests := true, laidLooks := .later }
def SchedulePartUptoCardSaid : Prop := Claim7.holds Tryz.pinned (.plain (OpenSpec.upto schedulePartSpec)) schedulePartUptoCard

/-- THE SECOND FORM's CARD OF 'onairlaw09.ScheduleGrant'. -/
def scheduleGrantUptoCard : Claim7 := { stood := { row := scheduleGrantUptoRow, standIns := [], harness := (true, "5ba5c5a99778ecb8c0f2dec7fe9d3ad94f00a66deeb8fff3bf8b5447596e4e44"), looks := true }, kinds := [], alts := [], laidByText := true, laidKinds := [.data], laidTests := true, laidLooks := .later }
def ScheduleGrantUptoCardSaid : Prop := Claim7.holds Tryz.pinned (.plain (OpenSpec.upto scheduleGrantSpec)) scheduleGrantUptoCard

/-- THE SECOND FORM's CARD OF 'onairlaw09.ScheduleConflict'. -/
def scheduleConflictUptoCard : Claim7 := { stood := { row := scheduleConflictUptoRow, standIns := [], harness := (true, "5ba5c5a99778ecb8c0f2dec7fe9d3ad94f00a66deeb8fff3bf8b5447596e4e44"), looks := true }, kinds := [], alts := [], laidByText := true, laidKinds := [.data], laidTests := true, laidLooks := .later }
def ScheduleConflictUptoCardSaid : Prop := Claim7.holds Tryz.pinned (.plain (OpenSpec.upto scheduleConflictSpec)) scheduleConflictUptoCard

/-- THE SECOND FORM's CARD OF 'onairlaw09.ScheduleChoose'. -/
def scheduleChooseUptoCard : Claim7 := { stood := { row := scheduleChooseUptoRow, standIns := [], harness := (true, "5ba5c5a99778ecb8c0f2dec7fe9d3ad94f00a66deeb8fff3bf8b5447596e4e44"), looks := true }, kinds := [], alts := [], laidByText := true, laidKinds := [.data], laidTests := true, laidLooks := .later }
def ScheduleChooseUptoCardSaid : Prop := Claim7.holds Tryz.pinned (.plain (OpenSpec.upto scheduleChooseSpec)) scheduleChooseUptoCard

/-- THE SECOND FORM's CARD OF 'onairlaw09.ScheduleBooked'. -/
def scheduleBookedUptoCard : Claim7 := { stood := { row := scheduleBookedUptoRow, standIns := [], harness := (true, "5ba5c5a99778ecb8c0f2dec7fe9d3ad94f00a66deeb8fff3bf8b5447596e4e44"), looks := true }, kinds := [], alts := [], laidByText := true, laidKinds := [.data], laidTests := true, laidLooks := .later }
def ScheduleBookedUptoCardSaid : Prop := Claim7.holds Tryz.pinned (.plain (OpenSpec.upto scheduleBookedSpec)) scheduleBookedUptoCard

/-- THE SECOND FORM's CARD OF 'onairlaw09.ScheduleHolds'. -/
def scheduleHoldsUptoCard : Claim7 := { stood := { row := scheduleHoldsUptoRow, standIns := [], harness := (true, "5ba5c5a99778ecb8c0f2dec7fe9d3ad94f00a66deeb8fff3bf8b5447596e4e44"), looks := true }, kinds := [], alts := [], laidByText := true, laidKinds := [.data], laidTests := true, laidLooks := .later }
def ScheduleHoldsUptoCardSaid : Prop := Claim7.holds Tryz.pinned (.plain (OpenSpec.upto scheduleHoldsSpec)) scheduleHoldsUptoCard

/-- THE SECOND FORM's CARD OF 'onairlaw09.ScheduleLeast'. -/
def scheduleLeastUptoCard : Claim7 := { stood := { row := scheduleLeastUptoRow, standIns := [], harness := (true, "5ba5c5a99778ecb8c0f2dec7fe9d3ad94f00a66deeb8fff3bf8b5447596e4e44"), looks := true }, kinds := [], alts := [], laidByText := true, laidKinds := [.data], laidTests := true, laidLooks := .later }
def ScheduleLeastUptoCardSaid : Prop := Claim7.holds Tryz.pinned (.plain (OpenSpec.upto scheduleLeastSpec)) scheduleLeastUptoCard

/-- THE SECOND FORM's CARD OF 'onairlaw09.ScheduleCompiled'. -/
def scheduleCompiledUptoCard : Claim7 := { stood := { row := scheduleCompiledUptoRow, standIns := [], harness := (true, "5ba5c5a99778ecb8c0f2dec7fe9d3ad94f00a66deeb8fff3bf8b5447596e4e44"), looks := true }, kinds := [], alts := [], laidByText := true, laidKinds := [.data], laidTests := true, laidLooks := .later }
def ScheduleCompiledUptoCardSaid : Prop := Claim7.holds Tryz.pinned (.plain (OpenSpec.upto scheduleCompiledSpec)) scheduleCompiledUptoCard
end Rows
end Go.Proofs.YtkcnjajklnoahaaGreatDoor
