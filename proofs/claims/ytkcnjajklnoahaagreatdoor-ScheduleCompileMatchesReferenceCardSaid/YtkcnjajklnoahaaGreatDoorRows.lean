/-
  NARROWER THAN 'FOR EVERY INPUT', by the rows' own cells (each row's printed sentence says how): ScheduleMatchesReference: laid · ScheduleConflictMatchesReference: laid · ScheduleCompileMatchesReference: laid · SchedulePart: laid · ScheduleGrant: laid · ScheduleConflict: laid · ScheduleChoose: laid · ScheduleBooked: laid · ScheduleHolds: laid · ScheduleLeast: laid · ScheduleCompiled: laid.
  DERIVED. THE GIVEN ROWS OF THIS SEAT. 11 by the template 'for every input the law returns true; each argument reads behind the call as it read before'; 0 by the template 'total and deterministic' (their statements: YtkcnjajklnoahaaGreatDoorTotals.lean).
  GIVEN WITH THE SEED: the statements are not yours to turn. If you find one false, say at which input.
  Laid BY PROGRAM, IN A SANDBOX (cutbox-rows.mjs): the forced cells as the released guide's own fill.sh prints them over the translation d3d79822c7840221… (all of the seat's roots in one cut). By AI agents, Wed Nov 11 2026. No macro, syntax, notation, axiom, sorry.
-/
import Derived.Test.YtkcnjajklnoahaaGreatDoorChecked
import GoSem.Claim
import GoSem.ClaimJoined
import GoSem.ClaimMapViews
import Derived.JoinedTies
import Derived.KernelRfl
namespace Go.Proofs.YtkcnjajklnoahaaGreatDoor
/- THE CELL 'sum', in the pinned program and in every row, IS THE sha256 OF THE DUMP (.gsa) THAT YtkcnjajklnoahaaGreatDoorProg.lean LOADS. Nothing in Lean hashes anything: it is a label: what it is worth is what the hold of that sum in a sandbox is worth. -/
noncomputable def Tryz.pinned : Pinned := { name := "ytkcnjajklnoahaagreatdoor", sum := "d3d79822c7840221ad59d87f99270b2f2a20a03bc16b5fced2672ba0b8076968", checked := Tryz.checked }
namespace Rows
def none {H : Type} : Left H := { results := [], args := [] }

/- WHAT THE LISTED PACKAGE-LEVEL VARIABLES READ AS WHEN THE CALL BEGINS. Each datum BY PROGRAM (the guide's laid-datum.mjs) off the statement by which the dump's own 'gosem.cut.vars' lays the variable. In a bare row this is a premise. The card (YtkcnjajklnoahaaGreatDoorCards.lean) ties it to the program's text. -/
def laid_onair_timecode_rates {H : Type} : DataW H := .agg [.agg [.agg [.lit (.int .i64 24000), .lit (.int .i64 1001)], .lit (.int .i64 24), .lit (.int .i64 0)], .agg [.agg [.lit (.int .i64 24), .lit (.int .i64 1)], .lit (.int .i64 24), .lit (.int .i64 0)], .agg [.agg [.lit (.int .i64 25), .lit (.int .i64 1)], .lit (.int .i64 25), .lit (.int .i64 0)], .agg [.agg [.lit (.int .i64 30000), .lit (.int .i64 1001)], .lit (.int .i64 30), .lit (.int .i64 2)], .agg [.agg [.lit (.int .i64 30), .lit (.int .i64 1)], .lit (.int .i64 30), .lit (.int .i64 0)], .agg [.agg [.lit (.int .i64 50), .lit (.int .i64 1)], .lit (.int .i64 50), .lit (.int .i64 0)], .agg [.agg [.lit (.int .i64 60000), .lit (.int .i64 1001)], .lit (.int .i64 60), .lit (.int .i64 4)], .agg [.agg [.lit (.int .i64 60), .lit (.int .i64 1)], .lit (.int .i64 60), .lit (.int .i64 0)]]

/-- 'onairlaw09.ScheduleMatchesReference': WHATEVER THE INPUT: true; the input reads as it did. -/
def scheduleMatchesReferenceSpec : ChangeSpec := { name := "scheduleMatchesReference", fn := fun _ => fun
  | [d] => { results := [.lit (.bool true)], args := [d] }
  | _ => none }
def scheduleMatchesReferenceRow : OpenClaim := { program := "ytkcnjajklnoahaagreatdoor", sum := "d3d79822c7840221ad59d87f99270b2f2a20a03bc16b5fced2672ba0b8076968", func := "onair/onairlaw09.ScheduleMatchesReference", spec := "scheduleMatchesReference", inPlace := ["maps.clone"], unfollowed := true, recurses := true, named := ["onair/timecode.rates"], plainKeys := false, apart := false, laid := [("onair/timecode.rates", laid_onair_timecode_rates)] }
def ScheduleMatchesReferenceSaid : Prop := scheduleMatchesReferenceRow.holds Tryz.pinned (OpenSpec.ofChange scheduleMatchesReferenceSpec)

/-- ITS FALSE NEIGHBOUR: 'it returns false'. Refute it at one input. -/
def scheduleMatchesReferenceWrong : ChangeSpec := { name := "scheduleMatchesReference", fn := fun _ => fun
  | [d] => { results := [.lit (.bool false)], args := [d] }
  | _ => none }
def ScheduleMatchesReferenceWrongFalsely : Prop := scheduleMatchesReferenceRow.holds Tryz.pinned (OpenSpec.ofChange scheduleMatchesReferenceWrong)

/-- 'onairlaw09.ScheduleConflictMatchesReference': WHATEVER THE INPUT: true; the input reads as it did. -/
def scheduleConflictMatchesReferenceSpec : ChangeSpec := { name := "scheduleConflictMatchesReference", fn := fun _ => fun
  | [d] => { results := [.lit (.bool true)], args := [d] }
  | _ => none }
def scheduleConflictMatchesReferenceRow : OpenClaim := { program := "ytkcnjajklnoahaagreatdoor", sum := "d3d79822c7840221ad59d87f99270b2f2a20a03bc16b5fced2672ba0b8076968", func := "onair/onairlaw09.ScheduleConflictMatchesReference", spec := "scheduleConflictMatchesReference", inPlace := ["maps.clone"], unfollowed := true, recurses := true, named := ["onair/timecode.rates"], plainKeys := false, apart := false, laid := [("onair/timecode.rates", laid_onair_timecode_rates)] }
def ScheduleConflictMatchesReferenceSaid : Prop := scheduleConflictMatchesReferenceRow.holds Tryz.pinned (OpenSpec.ofChange scheduleConflictMatchesReferenceSpec)

/-- ITS FALSE NEIGHBOUR: 'it returns false'. Refute it at one input. -/
def scheduleConflictMatchesReferenceWrong : ChangeSpec := { name := "scheduleConflictMatchesReference", fn := fun _ => fun
  | [d] => { results := [.lit (.bool false)], args := [d] }
  | _ => none }
def ScheduleConflictMatchesReferenceWrongFalsely : Prop := scheduleConflictMatchesReferenceRow.holds Tryz.pinned (OpenSpec.ofChange scheduleConflictMatchesReferenceWrong)

/-- 'onairlaw09.ScheduleCompileMatchesReference': WHATEVER THE INPUT: true; the input reads as it did. -/
def scheduleCompileMatchesReferenceSpec : ChangeSpec := { name := "scheduleCompileMatchesReference", fn := fun _ => fun
  | [d] => { results := [.lit (.bool true)], args := [d] }
  | _ => none }
def scheduleCompileMatchesReferenceRow : OpenClaim := { program := "ytkcnjajklnoahaagreatdoor", sum := "d3d79822c7840221ad59d87f99270b2f2a20a03bc16b5fced2672ba0b8076968", func := "onair/onairlaw09.ScheduleCompileMatchesReference", spec := "scheduleCompileMatchesReference", inPlace := ["maps.clone"], unfollowed := true, recurses := true, named := ["onair/timecode.rates"], plainKeys := false, apart := false, laid := [("onair/timecode.rates", laid_onair_timecode_rates)] }
def ScheduleCompileMatchesReferenceSaid : Prop := scheduleCompileMatchesReferenceRow.holds Tryz.pinned (OpenSpec.ofChange scheduleCompileMatchesReferenceSpec)

/-- ITS FALSE NEIGHBOUR: 'it returns false'. Refute it at one input. -/
def scheduleCompileMatchesReferenceWrong : ChangeSpec := { name := "scheduleCompileMatchesReference", fn := fun _ => fun
  | [d] => { results := [.lit (.bool false)], args := [d] }
  | _ => none }
def ScheduleCompileMatchesReferenceWrongFalsely : Prop := scheduleCompileMatchesReferenceRow.holds Tryz.pinned (OpenSpec.ofChange scheduleCompileMatchesReferenceWrong)

/-- 'onairlaw09.SchedulePart': WHATEVER THE INPUT: true; the input reads as it did. -/
def schedulePartSpec : ChangeSpec := { name := "schedulePart", fn := fun _ => fun
  | [d1, d2, d3] => { results := [.lit (.bool true)], args := [d1, d2, d3] }
  | _ => none }
def schedulePartRow : OpenClaim := { program := "ytkcnjajklnoahaagreatdoor", sum := "d3d79822c7840221ad59d87f99270b2f2a20a03bc16b5fced2672ba0b8076968", func := "onair/onairlaw09.SchedulePart", spec := "schedulePart", inPlace := ["maps.clone"], unfollowed := true, recurses := true, named := ["onair/timecode.rates"], plainKeys := false, apart := false, laid := [("onair/timecode.rates", laid_onair_timecode_rates)] }
def SchedulePartSaid : Prop := schedulePartRow.holds Tryz.pinned (OpenSpec.ofChange schedulePartSpec)

/-- ITS FALSE NEIGHBOUR: 'it returns false'. Refute it at one input. -/
def schedulePartWrong : ChangeSpec := { name := "schedulePart", fn := fun _ => fun
  | [d1, d2, d3] => { results := [.lit (.bool false)], args := [d1, d2, d3] }
  | _ => none }
def SchedulePartWrongFalsely : Prop := schedulePartRow.holds Tryz.pinned (OpenSpec.ofChange schedulePartWrong)

/-- 'onairlaw09.ScheduleGrant': WHATEVER THE INPUT: true; the input reads as it did. -/
def scheduleGrantSpec : ChangeSpec := { name := "scheduleGrant", fn := fun _ => fun
  | [d1, d2, d3, d4] => { results := [.lit (.bool true)], args := [d1, d2, d3, d4] }
  | _ => none }
def scheduleGrantRow : OpenClaim := { program := "ytkcnjajklnoahaagreatdoor", sum := "d3d79822c7840221ad59d87f99270b2f2a20a03bc16b5fced2672ba0b8076968", func := "onair/onairlaw09.ScheduleGrant", spec := "scheduleGrant", inPlace := ["maps.clone"], unfollowed := true, recurses := true, named := ["onair/timecode.rates"], plainKeys := false, apart := false, laid := [("onair/timecode.rates", laid_onair_timecode_rates)] }
def ScheduleGrantSaid : Prop := scheduleGrantRow.holds Tryz.pinned (OpenSpec.ofChange scheduleGrantSpec)

/-- ITS FALSE NEIGHBOUR: 'it returns false'. Refute it at one input. -/
def scheduleGrantWrong : ChangeSpec := { name := "scheduleGrant", fn := fun _ => fun
  | [d1, d2, d3, d4] => { results := [.lit (.bool false)], args := [d1, d2, d3, d4] }
  | _ => none }
def ScheduleGrantWrongFalsely : Prop := scheduleGrantRow.holds Tryz.pinned (OpenSpec.ofChange scheduleGrantWrong)

/-- 'onairlaw09.ScheduleConflict': WHATEVER THE INPUT: true; the input reads as it did. -/
def scheduleConflictSpec : ChangeSpec := { name := "scheduleConflict", fn := fun _ => fun
  | [d] => { results := [.lit (.bool true)], args := [d] }
  | _ => none }
def scheduleConflictRow : OpenClaim := { program := "ytkcnjajklnoahaagreatdoor", sum := "d3d79822c7840221ad59d87f99270b2f2a20a03bc16b5fced2672ba0b8076968", func := "onair/onairlaw09.ScheduleConflict", spec := "scheduleConflict", inPlace := ["maps.clone"], unfollowed := true, recurses := true, named := ["onair/timecode.rates"], plainKeys := false, apart := false, laid := [("onair/timecode.rates", laid_onair_timecode_rates)] }
def ScheduleConflictSaid : Prop := scheduleConflictRow.holds Tryz.pinned (OpenSpec.ofChange scheduleConflictSpec)

/-- ITS FALSE NEIGHBOUR: 'it returns false'. Refute it at one input. -/
def scheduleConflictWrong : ChangeSpec := { name := "scheduleConflict", fn := fun _ => fun
  | [d] => { results := [.lit (.bool false)], args := [d] }
  | _ => none }
def ScheduleConflictWrongFalsely : Prop := scheduleConflictRow.holds Tryz.pinned (OpenSpec.ofChange scheduleConflictWrong)

/-- 'onairlaw09.ScheduleChoose': WHATEVER THE INPUT: true; the input reads as it did. -/
def scheduleChooseSpec : ChangeSpec := { name := "scheduleChoose", fn := fun _ => fun
  | [d] => { results := [.lit (.bool true)], args := [d] }
  | _ => none }
def scheduleChooseRow : OpenClaim := { program := "ytkcnjajklnoahaagreatdoor", sum := "d3d79822c7840221ad59d87f99270b2f2a20a03bc16b5fced2672ba0b8076968", func := "onair/onairlaw09.ScheduleChoose", spec := "scheduleChoose", inPlace := ["maps.clone"], unfollowed := true, recurses := true, named := ["onair/timecode.rates"], plainKeys := false, apart := false, laid := [("onair/timecode.rates", laid_onair_timecode_rates)] }
def ScheduleChooseSaid : Prop := scheduleChooseRow.holds Tryz.pinned (OpenSpec.ofChange scheduleChooseSpec)

/-- ITS FALSE NEIGHBOUR: 'it returns false'. Refute it at one input. -/
def scheduleChooseWrong : ChangeSpec := { name := "scheduleChoose", fn := fun _ => fun
  | [d] => { results := [.lit (.bool false)], args := [d] }
  | _ => none }
def ScheduleChooseWrongFalsely : Prop := scheduleChooseRow.holds Tryz.pinned (OpenSpec.ofChange scheduleChooseWrong)

/-- 'onairlaw09.ScheduleBooked': WHATEVER THE INPUT: true; the input reads as it did. -/
def scheduleBookedSpec : ChangeSpec := { name := "scheduleBooked", fn := fun _ => fun
  | [d] => { results := [.lit (.bool true)], args := [d] }
  | _ => none }
def scheduleBookedRow : OpenClaim := { program := "ytkcnjajklnoahaagreatdoor", sum := "d3d79822c7840221ad59d87f99270b2f2a20a03bc16b5fced2672ba0b8076968", func := "onair/onairlaw09.ScheduleBooked", spec := "scheduleBooked", inPlace := ["maps.clone"], unfollowed := true, recurses := true, named := ["onair/timecode.rates"], plainKeys := false, apart := false, laid := [("onair/timecode.rates", laid_onair_timecode_rates)] }
def ScheduleBookedSaid : Prop := scheduleBookedRow.holds Tryz.pinned (OpenSpec.ofChange scheduleBookedSpec)

/-- ITS FALSE NEIGHBOUR: 'it returns false'. Refute it at one input. -/
def scheduleBookedWrong : ChangeSpec := { name := "scheduleBooked", fn := fun _ => fun
  | [d] => { results := [.lit (.bool false)], args := [d] }
  | _ => none }
def ScheduleBookedWrongFalsely : Prop := scheduleBookedRow.holds Tryz.pinned (OpenSpec.ofChange scheduleBookedWrong)

/-- 'onairlaw09.ScheduleHolds': WHATEVER THE INPUT: true; the input reads as it did. -/
def scheduleHoldsSpec : ChangeSpec := { name := "scheduleHolds", fn := fun _ => fun
  | [d] => { results := [.lit (.bool true)], args := [d] }
  | _ => none }
def scheduleHoldsRow : OpenClaim := { program := "ytkcnjajklnoahaagreatdoor", sum := "d3d79822c7840221ad59d87f99270b2f2a20a03bc16b5fced2672ba0b8076968", func := "onair/onairlaw09.ScheduleHolds", spec := "scheduleHolds", inPlace := ["maps.clone"], unfollowed := true, recurses := true, named := ["onair/timecode.rates"], plainKeys := false, apart := false, laid := [("onair/timecode.rates", laid_onair_timecode_rates)] }
def ScheduleHoldsSaid : Prop := scheduleHoldsRow.holds Tryz.pinned (OpenSpec.ofChange scheduleHoldsSpec)

/-- ITS FALSE NEIGHBOUR: 'it returns false'. Refute it at one input. -/
def scheduleHoldsWrong : ChangeSpec := { name := "scheduleHolds", fn := fun _ => fun
  | [d] => { results := [.lit (.bool false)], args := [d] }
  | _ => none }
def ScheduleHoldsWrongFalsely : Prop := scheduleHoldsRow.holds Tryz.pinned (OpenSpec.ofChange scheduleHoldsWrong)

/-- 'onairlaw09.ScheduleLeast': WHATEVER THE INPUT: true; the input reads as it did. -/
def scheduleLeastSpec : ChangeSpec := { name := "scheduleLeast", fn := fun _ => fun
  | [d1, d2] => { results := [.lit (.bool true)], args := [d1, d2] }
  | _ => none }
def scheduleLeastRow : OpenClaim := { program := "ytkcnjajklnoahaagreatdoor", sum := "d3d79822c7840221ad59d87f99270b2f2a20a03bc16b5fced2672ba0b8076968", func := "onair/onairlaw09.ScheduleLeast", spec := "scheduleLeast", inPlace := ["maps.clone"], unfollowed := true, recurses := true, named := ["onair/timecode.rates"], plainKeys := false, apart := false, laid := [("onair/timecode.rates", laid_onair_timecode_rates)] }
def ScheduleLeastSaid : Prop := scheduleLeastRow.holds Tryz.pinned (OpenSpec.ofChange scheduleLeastSpec)

/-- ITS FALSE NEIGHBOUR: 'it returns false'. Refute it at one input. -/
def scheduleLeastWrong : ChangeSpec := { name := "scheduleLeast", fn := fun _ => fun
  | [d1, d2] => { results := [.lit (.bool false)], args := [d1, d2] }
  | _ => none }
def ScheduleLeastWrongFalsely : Prop := scheduleLeastRow.holds Tryz.pinned (OpenSpec.ofChange scheduleLeastWrong)

/-- 'onairlaw09.ScheduleCompiled': WHATEVER THE INPUT: true; the input reads as it did. -/
def scheduleCompiledSpec : ChangeSpec := { name := "scheduleCompiled", fn := fun _ => fun
  | [d] => { results := [.lit (.bool true)], args := [d] }
  | _ => none }
def scheduleCompiledRow : OpenClaim := { program := "ytkcnjajklnoahaagreatdoor", sum := "d3d79822c7840221ad59d87f99270b2f2a20a03bc16b5fced2672ba0b8076968", func := "onair/onairlaw09.ScheduleCompiled", spec := "scheduleCompiled", inPlace := ["maps.clone"], unfollowed := true, recurses := true, named := ["onair/timecode.rates"], plainKeys := false, apart := false, laid := [("onair/timecode.rates", laid_onair_timecode_rates)] }
def ScheduleCompiledSaid : Prop := scheduleCompiledRow.holds Tryz.pinned (OpenSpec.ofChange scheduleCompiledSpec)

/-- ITS FALSE NEIGHBOUR: 'it returns false'. Refute it at one input. -/
def scheduleCompiledWrong : ChangeSpec := { name := "scheduleCompiled", fn := fun _ => fun
  | [d] => { results := [.lit (.bool false)], args := [d] }
  | _ => none }
def ScheduleCompiledWrongFalsely : Prop := scheduleCompiledRow.holds Tryz.pinned (OpenSpec.ofChange scheduleCompiledWrong)

/- THE SECOND FORM. 'bulk': how many values and letters a reading holds, each counted each time it is reached (what is shared counts as often as it is met; a slice's spare places count too). A statement '..UptoSaid' is the law's where the arguments, and the package variables that the reading takes, are together of bulk at most 1048576: NARROWER than '..Said'. Prove '..Said' where nothing that the law and all that it calls make is longer than what came in: it says more and counts as full. Else prove '..UptoSaid'. A law counts once. -/
mutual
def uptoBulk {H : Type} : DataW H → Nat
  | .lit (.string bytes) => bytes.length + 1
  | .lit _ => 1
  | .nil => 1
  | .ptr d => uptoBulk d + 1
  | .slice elems spare => uptoBulkAll elems + uptoBulkAll spare + 1
  | .agg parts => uptoBulkAll parts + 1
  | .iface _ d => uptoBulk d + 1
  | .map entries => uptoBulkEntries entries + 1
  | .held _ => 1
def uptoBulkAll {H : Type} : List (DataW H) → Nat
  | [] => 0
  | d :: r => uptoBulk d + uptoBulkAll r
def uptoBulkEntries {H : Type} : List (Lit × DataW H) → Nat
  | [] => 0
  | x :: r => uptoBulkEntry x + uptoBulkEntries r
def uptoBulkEntry {H : Type} : Lit × DataW H → Nat
  | (.string bytes, d) => bytes.length + uptoBulk d + 1
  | (_, d) => uptoBulk d + 1
 end
def uptoSmall : (H : Type) → List (DataW H) → Bool := fun _ ds => decide (uptoBulkAll ds ≤ 1048576)
def OpenSpec.upto (s : _root_.Go.ChangeSpec) : _root_.Go.OpenSpec := { _root_.Go.OpenSpec.ofChange s with cond := some uptoSmall }

/-- 'onairlaw09.ScheduleMatchesReference', WHERE WHAT IT READS IS OF BULK AT MOST 1048576: true; the input reads as it did. -/
def scheduleMatchesReferenceUptoRow : OpenClaim := { program := "ytkcnjajklnoahaagreatdoor", sum := "d3d79822c7840221ad59d87f99270b2f2a20a03bc16b5fced2672ba0b8076968", func := "onair/onairlaw09.ScheduleMatchesReference", spec := "scheduleMatchesReference", inPlace := ["maps.clone"], unfollowed := true, recurses := true, named := ["onair/timecode.rates"], plainKeys := false, apart := false, laid := [("onair/timecode.rates", laid_onair_timecode_rates)], narrowed := true }
def ScheduleMatchesReferenceUptoSaid : Prop := scheduleMatchesReferenceUptoRow.holds Tryz.pinned (OpenSpec.upto scheduleMatchesReferenceSpec)

/-- 'onairlaw09.ScheduleConflictMatchesReference', WHERE WHAT IT READS IS OF BULK AT MOST 1048576: true; the input reads as it did. -/
def scheduleConflictMatchesReferenceUptoRow : OpenClaim := { program := "ytkcnjajklnoahaagreatdoor", sum := "d3d79822c7840221ad59d87f99270b2f2a20a03bc16b5fced2672ba0b8076968", func := "onair/onairlaw09.ScheduleConflictMatchesReference", spec := "scheduleConflictMatchesReference", inPlace := ["maps.clone"], unfollowed := true, recurses := true, named := ["onair/timecode.rates"], plainKeys := false, apart := false, laid := [("onair/timecode.rates", laid_onair_timecode_rates)], narrowed := true }
def ScheduleConflictMatchesReferenceUptoSaid : Prop := scheduleConflictMatchesReferenceUptoRow.holds Tryz.pinned (OpenSpec.upto scheduleConflictMatchesReferenceSpec)

/-- 'onairlaw09.ScheduleCompileMatchesReference', WHERE WHAT IT READS IS OF BULK AT MOST 1048576: true; the input reads as it did. -/
def scheduleCompileMatchesReferenceUptoRow : OpenClaim := { program := "ytkcnjajklnoahaagreatdoor", sum := "d3d79822c7840221ad59d87f99270b2f2a20a03bc16b5fced2672ba0b8076968", func := "onair/onairlaw09.ScheduleCompileMatchesReference", spec := "scheduleCompileMatchesReference", inPlace := ["maps.clone"], unfollowed := true, recurses := true, named := ["onair/timecode.rates"], plainKeys := false, apart := false, laid := [("onair/timecode.rates", laid_onair_timecode_rates)], narrowed := true }
def ScheduleCompileMatchesReferenceUptoSaid : Prop := scheduleCompileMatchesReferenceUptoRow.holds Tryz.pinned (OpenSpec.upto scheduleCompileMatchesReferenceSpec)

/-- 'onairlaw09.SchedulePart', WHERE WHAT IT READS IS OF BULK AT MOST 1048576: true; the input reads as it did. -/
def schedulePartUptoRow : OpenClaim := { program := "ytkcnjajklnoahaagreatdoor", sum := "d3d79822c7840221ad59d87f99270b2f2a20a03bc16b5fced2672ba0b8076968", func := "onair/onairlaw09.SchedulePart", spec := "schedulePart", inPlace := ["maps.clone"], unfollowed := true, recurses := true, named := ["onair/timecode.rates"], plainKeys := false, apart := false, laid := [("onair/timecode.rates", laid_onair_timecode_rates)], narrowed := true }
def SchedulePartUptoSaid : Prop := schedulePartUptoRow.holds Tryz.pinned (OpenSpec.upto schedulePartSpec)

/-- 'onairlaw09.ScheduleGrant', WHERE WHAT IT READS IS OF BULK AT MOST 1048576: true; the input reads as it did. -/
def scheduleGrantUptoRow : OpenClaim := { program := "ytkcnjajklnoahaagreatdoor", sum := "d3d79822c7840221ad59d87f99270b2f2a20a03bc16b5fced2672ba0b8076968", func := "onair/onairlaw09.ScheduleGrant", spec := "scheduleGrant", inPlace := ["maps.clone"], unfollowed := true, recurses := true, named := ["onair/timecode.rates"], plainKeys := false, apart := false, laid := [("onair/timecode.rates", laid_onair_timecode_rates)], narrowed := true }
def ScheduleGrantUptoSaid : Prop := scheduleGrantUptoRow.holds Tryz.pinned (OpenSpec.upto scheduleGrantSpec)

/-- 'onairlaw09.ScheduleConflict', WHERE WHAT IT READS IS OF BULK AT MOST 1048576: true; the input reads as it did. -/
def scheduleConflictUptoRow : OpenClaim := { program := "ytkcnjajklnoahaagreatdoor", sum := "d3d79822c7840221ad59d87f99270b2f2a20a03bc16b5fced2672ba0b8076968", func := "onair/onairlaw09.ScheduleConflict", spec := "scheduleConflict", inPlace := ["maps.clone"], unfollowed := true, recurses := true, named := ["onair/timecode.rates"], plainKeys := false, apart := false, laid := [("onair/timecode.rates", laid_onair_timecode_rates)], narrowed := true }
def ScheduleConflictUptoSaid : Prop := scheduleConflictUptoRow.holds Tryz.pinned (OpenSpec.upto scheduleConflictSpec)

/-- 'onairlaw09.ScheduleChoose', WHERE WHAT IT READS IS OF BULK AT MOST 1048576: true; the input reads as it did. -/
def scheduleChooseUptoRow : OpenClaim := { program := "ytkcnjajklnoahaagreatdoor", sum := "d3d79822c7840221ad59d87f99270b2f2a20a03bc16b5fced2672ba0b8076968", func := "onair/onairlaw09.ScheduleChoose", spec := "scheduleChoose", inPlace := ["maps.clone"], unfollowed := true, recurses := true, named := ["onair/timecode.rates"], plainKeys := false, apart := false, laid := [("onair/timecode.rates", laid_onair_timecode_rates)], narrowed := true }
def ScheduleChooseUptoSaid : Prop := scheduleChooseUptoRow.holds Tryz.pinned (OpenSpec.upto scheduleChooseSpec)

/-- 'onairlaw09.ScheduleBooked', WHERE WHAT IT READS IS OF BULK AT MOST 1048576: true; the input reads as it did. -/
def scheduleBookedUptoRow : OpenClaim := { program := "ytkcnjajklnoahaagreatdoor", sum := "d3d79822c7840221ad59d87f99270b2f2a20a03bc16b5fced2672ba0b8076968", func := "onair/onairlaw09.ScheduleBooked", spec := "scheduleBooked", inPlace := ["maps.clone"], unfollowed := true, recurses := true, named := ["onair/timecode.rates"], plainKeys := false, apart := false, laid := [("onair/timecode.rates", laid_onair_timecode_rates)], narrowed := true }
def ScheduleBookedUptoSaid : Prop := scheduleBookedUptoRow.holds Tryz.pinned (OpenSpec.upto scheduleBookedSpec)

/-- 'onairlaw09.ScheduleHolds', WHERE WHAT IT READS IS OF BULK AT MOST 1048576: true; the input reads as it did. -/
def scheduleHoldsUptoRow : OpenClaim := { program := "ytkcnjajklnoahaagreatdoor", sum := "d3d79822c7840221ad59d87f99270b2f2a20a03bc16b5fced2672ba0b8076968", func := "onair/onairlaw09.ScheduleHolds", spec := "scheduleHolds", inPlace := ["maps.clone"], unfollowed := true, recurses := true, named := ["onair/timecode.rates"], plainKeys := false, apart := false, laid := [("onair/timecode.rates", laid_onair_timecode_rates)], narrowed := true }
def ScheduleHoldsUptoSaid : Prop := scheduleHoldsUptoRow.holds Tryz.pinned (OpenSpec.upto scheduleHoldsSpec)

/-- 'onairlaw09.ScheduleLeast', WHERE WHAT IT READS IS OF BULK AT MOST 1048576: true; the input reads as it did. -/
def scheduleLeastUptoRow : OpenClaim := { program := "ytkcnjajklnoahaagreatdoor", sum := "d3d79822c7840221ad59d87f99270b2f2a20a03bc16b5fced2672ba0b8076968", func := "onair/onairlaw09.ScheduleLeast", spec := "scheduleLeast", inPlace := ["maps.clone"], unfollowed := true, recurses := true, named := ["onair/timecode.rates"], plainKeys := false, apart := false, laid := [("onair/timecode.rates", laid_onair_timecode_rates)], narrowed := true }
def ScheduleLeastUptoSaid : Prop := scheduleLeastUptoRow.holds Tryz.pinned (OpenSpec.upto scheduleLeastSpec)

/-- 'onairlaw09.ScheduleCompiled', WHERE WHAT IT READS IS OF BULK AT MOST 1048576: true; the input reads as it did. -/
def scheduleCompiledUptoRow : OpenClaim := { program := "ytkcnjajklnoahaagreatdoor", sum := "d3d79822c7840221ad59d87f99270b2f2a20a03bc16b5fced2672ba0b8076968", func := "onair/onairlaw09.ScheduleCompiled", spec := "scheduleCompiled", inPlace := ["maps.clone"], unfollowed := true, recurses := true, named := ["onair/timecode.rates"], plainKeys := false, apart := false, laid := [("onair/timecode.rates", laid_onair_timecode_rates)], narrowed := true }
def ScheduleCompiledUptoSaid : Prop := scheduleCompiledUptoRow.holds Tryz.pinned (OpenSpec.upto scheduleCompiledSpec)

end Rows
end Go.Proofs.YtkcnjajklnoahaaGreatDoor
