/-
  NARROWER THAN 'FOR EVERY INPUT', by the rows' own cells (each row's printed sentence says how): ModelMatchesReference: laid · ModelAllows: laid · ModelPermitted: laid · ModelOne: laid · ModelEarlier: laid · ModelRefuses: laid · ModelBlackout: laid · ModelPrograms: laid.
  DERIVED. THE GIVEN ROWS OF THIS SEAT. 8 by the template 'for every input the law returns true; each argument reads behind the call as it read before'; 0 by the template 'total and deterministic' (their statements: YtnopaopphmjnmaaGreatDoorTotals.lean).
  GIVEN WITH THE SEED: the statements are not yours to turn. If you find one false, say at which input.
  Laid BY PROGRAM, IN A SANDBOX (cutbox-rows.mjs): the forced cells as the released guide's own fill.sh prints them over the translation dced8ade91ef5e8f… (all of the seat's roots in one cut). By AI agents, Wed Nov 11 2026. No macro, syntax, notation, axiom, sorry.
-/
import Derived.Test.YtnopaopphmjnmaaGreatDoorChecked
import GoSem.Claim
import GoSem.ClaimJoined
import GoSem.ClaimMapViews
import Derived.JoinedTies
import Derived.KernelRfl
namespace Go.Proofs.YtnopaopphmjnmaaGreatDoor
/- THE CELL 'sum', in the pinned program and in every row, IS THE sha256 OF THE DUMP (.gsa) THAT YtnopaopphmjnmaaGreatDoorProg.lean LOADS. Nothing in Lean hashes anything: it is a label: what it is worth is what the hold of that sum in a sandbox is worth. -/
noncomputable def Tryz.pinned : Pinned := { name := "ytnopaopphmjnmaagreatdoor", sum := "dced8ade91ef5e8f5cb0a07e37a0c246fc397f96d35a9281d15adb4383d7561f", checked := Tryz.checked }
namespace Rows
def none {H : Type} : Left H := { results := [], args := [] }

/- WHAT THE LISTED PACKAGE-LEVEL VARIABLES READ AS WHEN THE CALL BEGINS. Each datum BY PROGRAM (the guide's laid-datum.mjs) off the statement by which the dump's own 'gosem.cut.vars' lays the variable. In a bare row this is a premise. The card (YtnopaopphmjnmaaGreatDoorCards.lean) ties it to the program's text. -/
def laid_onair_timecode_rates {H : Type} : DataW H := .agg [.agg [.agg [.lit (.int .i64 24000), .lit (.int .i64 1001)], .lit (.int .i64 24), .lit (.int .i64 0)], .agg [.agg [.lit (.int .i64 24), .lit (.int .i64 1)], .lit (.int .i64 24), .lit (.int .i64 0)], .agg [.agg [.lit (.int .i64 25), .lit (.int .i64 1)], .lit (.int .i64 25), .lit (.int .i64 0)], .agg [.agg [.lit (.int .i64 30000), .lit (.int .i64 1001)], .lit (.int .i64 30), .lit (.int .i64 2)], .agg [.agg [.lit (.int .i64 30), .lit (.int .i64 1)], .lit (.int .i64 30), .lit (.int .i64 0)], .agg [.agg [.lit (.int .i64 50), .lit (.int .i64 1)], .lit (.int .i64 50), .lit (.int .i64 0)], .agg [.agg [.lit (.int .i64 60000), .lit (.int .i64 1001)], .lit (.int .i64 60), .lit (.int .i64 4)], .agg [.agg [.lit (.int .i64 60), .lit (.int .i64 1)], .lit (.int .i64 60), .lit (.int .i64 0)]]

/-- 'onairlaw29.ModelMatchesReference': WHATEVER THE INPUT: true; the input reads as it did. -/
def modelMatchesReferenceSpec : ChangeSpec := { name := "modelMatchesReference", fn := fun _ => fun
  | [d1, d2, d3, d4, d5, d6, d7] => { results := [.lit (.bool true)], args := [d1, d2, d3, d4, d5, d6, d7] }
  | _ => none }
def modelMatchesReferenceRow : OpenClaim := { program := "ytnopaopphmjnmaagreatdoor", sum := "dced8ade91ef5e8f5cb0a07e37a0c246fc397f96d35a9281d15adb4383d7561f", func := "onair/onairlaw29.ModelMatchesReference", spec := "modelMatchesReference", inPlace := ["maps.clone", "slices.overlaps[onair/api.Entry]"], unfollowed := true, recurses := true, named := ["onair/timecode.rates"], plainKeys := false, apart := false, laid := [("onair/timecode.rates", laid_onair_timecode_rates)] }
def ModelMatchesReferenceSaid : Prop := modelMatchesReferenceRow.holds Tryz.pinned (OpenSpec.ofChange modelMatchesReferenceSpec)

/-- ITS FALSE NEIGHBOUR: 'it returns false'. Refute it at one input. -/
def modelMatchesReferenceWrong : ChangeSpec := { name := "modelMatchesReference", fn := fun _ => fun
  | [d1, d2, d3, d4, d5, d6, d7] => { results := [.lit (.bool false)], args := [d1, d2, d3, d4, d5, d6, d7] }
  | _ => none }
def ModelMatchesReferenceWrongFalsely : Prop := modelMatchesReferenceRow.holds Tryz.pinned (OpenSpec.ofChange modelMatchesReferenceWrong)

/-- 'onairlaw29.ModelAllows': WHATEVER THE INPUT: true; the input reads as it did. -/
def modelAllowsSpec : ChangeSpec := { name := "modelAllows", fn := fun _ => fun
  | [d1, d2, d3, d4, d5, d6] => { results := [.lit (.bool true)], args := [d1, d2, d3, d4, d5, d6] }
  | _ => none }
def modelAllowsRow : OpenClaim := { program := "ytnopaopphmjnmaagreatdoor", sum := "dced8ade91ef5e8f5cb0a07e37a0c246fc397f96d35a9281d15adb4383d7561f", func := "onair/onairlaw29.ModelAllows", spec := "modelAllows", inPlace := ["maps.clone", "slices.overlaps[onair/api.Entry]"], unfollowed := true, recurses := true, named := ["onair/timecode.rates"], plainKeys := false, apart := false, laid := [("onair/timecode.rates", laid_onair_timecode_rates)] }
def ModelAllowsSaid : Prop := modelAllowsRow.holds Tryz.pinned (OpenSpec.ofChange modelAllowsSpec)

/-- ITS FALSE NEIGHBOUR: 'it returns false'. Refute it at one input. -/
def modelAllowsWrong : ChangeSpec := { name := "modelAllows", fn := fun _ => fun
  | [d1, d2, d3, d4, d5, d6] => { results := [.lit (.bool false)], args := [d1, d2, d3, d4, d5, d6] }
  | _ => none }
def ModelAllowsWrongFalsely : Prop := modelAllowsRow.holds Tryz.pinned (OpenSpec.ofChange modelAllowsWrong)

/-- 'onairlaw29.ModelPermitted': WHATEVER THE INPUT: true; the input reads as it did. -/
def modelPermittedSpec : ChangeSpec := { name := "modelPermitted", fn := fun _ => fun
  | [d1, d2, d3, d4] => { results := [.lit (.bool true)], args := [d1, d2, d3, d4] }
  | _ => none }
def modelPermittedRow : OpenClaim := { program := "ytnopaopphmjnmaagreatdoor", sum := "dced8ade91ef5e8f5cb0a07e37a0c246fc397f96d35a9281d15adb4383d7561f", func := "onair/onairlaw29.ModelPermitted", spec := "modelPermitted", inPlace := ["maps.clone", "slices.overlaps[onair/api.Entry]"], unfollowed := true, recurses := true, named := ["onair/timecode.rates"], plainKeys := false, apart := false, laid := [("onair/timecode.rates", laid_onair_timecode_rates)] }
def ModelPermittedSaid : Prop := modelPermittedRow.holds Tryz.pinned (OpenSpec.ofChange modelPermittedSpec)

/-- ITS FALSE NEIGHBOUR: 'it returns false'. Refute it at one input. -/
def modelPermittedWrong : ChangeSpec := { name := "modelPermitted", fn := fun _ => fun
  | [d1, d2, d3, d4] => { results := [.lit (.bool false)], args := [d1, d2, d3, d4] }
  | _ => none }
def ModelPermittedWrongFalsely : Prop := modelPermittedRow.holds Tryz.pinned (OpenSpec.ofChange modelPermittedWrong)

/-- 'onairlaw29.ModelOne': WHATEVER THE INPUT: true; the input reads as it did. -/
def modelOneSpec : ChangeSpec := { name := "modelOne", fn := fun _ => fun
  | [d1, d2, d3, d4] => { results := [.lit (.bool true)], args := [d1, d2, d3, d4] }
  | _ => none }
def modelOneRow : OpenClaim := { program := "ytnopaopphmjnmaagreatdoor", sum := "dced8ade91ef5e8f5cb0a07e37a0c246fc397f96d35a9281d15adb4383d7561f", func := "onair/onairlaw29.ModelOne", spec := "modelOne", inPlace := ["maps.clone", "slices.overlaps[onair/api.Entry]"], unfollowed := true, recurses := true, named := ["onair/timecode.rates"], plainKeys := false, apart := false, laid := [("onair/timecode.rates", laid_onair_timecode_rates)] }
def ModelOneSaid : Prop := modelOneRow.holds Tryz.pinned (OpenSpec.ofChange modelOneSpec)

/-- ITS FALSE NEIGHBOUR: 'it returns false'. Refute it at one input. -/
def modelOneWrong : ChangeSpec := { name := "modelOne", fn := fun _ => fun
  | [d1, d2, d3, d4] => { results := [.lit (.bool false)], args := [d1, d2, d3, d4] }
  | _ => none }
def ModelOneWrongFalsely : Prop := modelOneRow.holds Tryz.pinned (OpenSpec.ofChange modelOneWrong)

/-- 'onairlaw29.ModelEarlier': WHATEVER THE INPUT: true; the input reads as it did. -/
def modelEarlierSpec : ChangeSpec := { name := "modelEarlier", fn := fun _ => fun
  | [d1, d2, d3, d4, d5] => { results := [.lit (.bool true)], args := [d1, d2, d3, d4, d5] }
  | _ => none }
def modelEarlierRow : OpenClaim := { program := "ytnopaopphmjnmaagreatdoor", sum := "dced8ade91ef5e8f5cb0a07e37a0c246fc397f96d35a9281d15adb4383d7561f", func := "onair/onairlaw29.ModelEarlier", spec := "modelEarlier", inPlace := ["maps.clone", "slices.overlaps[onair/api.Entry]"], unfollowed := true, recurses := true, named := ["onair/timecode.rates"], plainKeys := false, apart := false, laid := [("onair/timecode.rates", laid_onair_timecode_rates)] }
def ModelEarlierSaid : Prop := modelEarlierRow.holds Tryz.pinned (OpenSpec.ofChange modelEarlierSpec)

/-- ITS FALSE NEIGHBOUR: 'it returns false'. Refute it at one input. -/
def modelEarlierWrong : ChangeSpec := { name := "modelEarlier", fn := fun _ => fun
  | [d1, d2, d3, d4, d5] => { results := [.lit (.bool false)], args := [d1, d2, d3, d4, d5] }
  | _ => none }
def ModelEarlierWrongFalsely : Prop := modelEarlierRow.holds Tryz.pinned (OpenSpec.ofChange modelEarlierWrong)

/-- 'onairlaw29.ModelRefuses': WHATEVER THE INPUT: true; the input reads as it did. -/
def modelRefusesSpec : ChangeSpec := { name := "modelRefuses", fn := fun _ => fun
  | [d1, d2, d3] => { results := [.lit (.bool true)], args := [d1, d2, d3] }
  | _ => none }
def modelRefusesRow : OpenClaim := { program := "ytnopaopphmjnmaagreatdoor", sum := "dced8ade91ef5e8f5cb0a07e37a0c246fc397f96d35a9281d15adb4383d7561f", func := "onair/onairlaw29.ModelRefuses", spec := "modelRefuses", inPlace := ["maps.clone", "slices.overlaps[onair/api.Entry]"], unfollowed := true, recurses := true, named := ["onair/timecode.rates"], plainKeys := false, apart := false, laid := [("onair/timecode.rates", laid_onair_timecode_rates)] }
def ModelRefusesSaid : Prop := modelRefusesRow.holds Tryz.pinned (OpenSpec.ofChange modelRefusesSpec)

/-- ITS FALSE NEIGHBOUR: 'it returns false'. Refute it at one input. -/
def modelRefusesWrong : ChangeSpec := { name := "modelRefuses", fn := fun _ => fun
  | [d1, d2, d3] => { results := [.lit (.bool false)], args := [d1, d2, d3] }
  | _ => none }
def ModelRefusesWrongFalsely : Prop := modelRefusesRow.holds Tryz.pinned (OpenSpec.ofChange modelRefusesWrong)

/-- 'onairlaw29.ModelBlackout': WHATEVER THE INPUT: true; the input reads as it did. -/
def modelBlackoutSpec : ChangeSpec := { name := "modelBlackout", fn := fun _ => fun
  | [d1, d2, d3, d4, d5] => { results := [.lit (.bool true)], args := [d1, d2, d3, d4, d5] }
  | _ => none }
def modelBlackoutRow : OpenClaim := { program := "ytnopaopphmjnmaagreatdoor", sum := "dced8ade91ef5e8f5cb0a07e37a0c246fc397f96d35a9281d15adb4383d7561f", func := "onair/onairlaw29.ModelBlackout", spec := "modelBlackout", inPlace := ["maps.clone", "slices.overlaps[onair/api.Entry]"], unfollowed := true, recurses := true, named := ["onair/timecode.rates"], plainKeys := false, apart := false, laid := [("onair/timecode.rates", laid_onair_timecode_rates)] }
def ModelBlackoutSaid : Prop := modelBlackoutRow.holds Tryz.pinned (OpenSpec.ofChange modelBlackoutSpec)

/-- ITS FALSE NEIGHBOUR: 'it returns false'. Refute it at one input. -/
def modelBlackoutWrong : ChangeSpec := { name := "modelBlackout", fn := fun _ => fun
  | [d1, d2, d3, d4, d5] => { results := [.lit (.bool false)], args := [d1, d2, d3, d4, d5] }
  | _ => none }
def ModelBlackoutWrongFalsely : Prop := modelBlackoutRow.holds Tryz.pinned (OpenSpec.ofChange modelBlackoutWrong)

/-- 'onairlaw29.ModelPrograms': WHATEVER THE INPUT: true; the input reads as it did. -/
def modelProgramsSpec : ChangeSpec := { name := "modelPrograms", fn := fun _ => fun
  | [d1, d2] => { results := [.lit (.bool true)], args := [d1, d2] }
  | _ => none }
def modelProgramsRow : OpenClaim := { program := "ytnopaopphmjnmaagreatdoor", sum := "dced8ade91ef5e8f5cb0a07e37a0c246fc397f96d35a9281d15adb4383d7561f", func := "onair/onairlaw29.ModelPrograms", spec := "modelPrograms", inPlace := ["maps.clone", "slices.overlaps[onair/api.Entry]"], unfollowed := true, recurses := true, named := ["onair/timecode.rates"], plainKeys := false, apart := false, laid := [("onair/timecode.rates", laid_onair_timecode_rates)] }
def ModelProgramsSaid : Prop := modelProgramsRow.holds Tryz.pinned (OpenSpec.ofChange modelProgramsSpec)

/-- ITS FALSE NEIGHBOUR: 'it returns false'. Refute it at one input. -/
def modelProgramsWrong : ChangeSpec := { name := "modelPrograms", fn := fun _ => fun
  | [d1, d2] => { results := [.lit (.bool false)], args := [d1, d2] }
  | _ => none }
def ModelProgramsWrongFalsely : Prop := modelProgramsRow.holds Tryz.pinned (OpenSpec.ofChange modelProgramsWrong)

/- THE SECOND FORM. 'bulk': how many values and letters a reading holds, each counted each time it is reached (what is shared counts as often as it is met; a slice's spare places count too). A statement '..UptoSaid' is the law's where the arguments, and the package variables that the reading takes, are together of bulk at most 1048576: NARROWER than '..Said'. Prove '..Said' where nothing that the law and all that it calls make is longer than what came in: it says more and counts as full. Else prove '..UptoSaid'. A law counts once. -/
mutual
def uptoBulk {H : Type} : DataW H → Nat
  | .lit (.string bytes) => bytes.length + 1
  | .lit _ => 1
  | .nil => 1
  | .ptr d => uptoBulk d + 1
  | .slice elems spare => uptoBulkAll elems + uptoBulkAll spare + 1
  | .agg parts => uptoBulkAll parts + 1
  | .iface _ d => uptoBulk d + 1
  | .map entries => uptoBulkEntries entries + 1
  | .held _ => 1
def uptoBulkAll {H : Type} : List (DataW H) → Nat
  | [] => 0
  | d :: r => uptoBulk d + uptoBulkAll r
def uptoBulkEntries {H : Type} : List (Lit × DataW H) → Nat
  | [] => 0
  | x :: r => uptoBulkEntry x + uptoBulkEntries r
def uptoBulkEntry {H : Type} : Lit × DataW H → Nat
  | (.string bytes, d) => bytes.length + uptoBulk d + 1
  | (_, d) => uptoBulk d + 1
 end
def uptoSmall : (H : Type) → List (DataW H) → Bool := fun _ ds => decide (uptoBulkAll ds ≤ 1048576)
def OpenSpec.upto (s : _root_.Go.ChangeSpec) : _root_.Go.OpenSpec := { _root_.Go.OpenSpec.ofChange s with cond := some uptoSmall }

/-- 'onairlaw29.ModelMatchesReference', WHERE WHAT IT READS IS OF BULK AT MOST 1048576: true; the input reads as it did. -/
def modelMatchesReferenceUptoRow : OpenClaim := { program := "ytnopaopphmjnmaagreatdoor", sum := "dced8ade91ef5e8f5cb0a07e37a0c246fc397f96d35a9281d15adb4383d7561f", func := "onair/onairlaw29.ModelMatchesReference", spec := "modelMatchesReference", inPlace := ["maps.clone", "slices.overlaps[onair/api.Entry]"], unfollowed := true, recurses := true, named := ["onair/timecode.rates"], plainKeys := false, apart := false, laid := [("onair/timecode.rates", laid_onair_timecode_rates)], narrowed := true }
def ModelMatchesReferenceUptoSaid : Prop := modelMatchesReferenceUptoRow.holds Tryz.pinned (OpenSpec.upto modelMatchesReferenceSpec)

/-- 'onairlaw29.ModelAllows', WHERE WHAT IT READS IS OF BULK AT MOST 1048576: true; the input reads as it did. -/
def modelAllowsUptoRow : OpenClaim := { program := "ytnopaopphmjnmaagreatdoor", sum := "dced8ade91ef5e8f5cb0a07e37a0c246fc397f96d35a9281d15adb4383d7561f", func := "onair/onairlaw29.ModelAllows", spec := "modelAllows", inPlace := ["maps.clone", "slices.overlaps[onair/api.Entry]"], unfollowed := true, recurses := true, named := ["onair/timecode.rates"], plainKeys := false, apart := false, laid := [("onair/timecode.rates", laid_onair_timecode_rates)], narrowed := true }
def ModelAllowsUptoSaid : Prop := modelAllowsUptoRow.holds Tryz.pinned (OpenSpec.upto modelAllowsSpec)

/-- 'onairlaw29.ModelPermitted', WHERE WHAT IT READS IS OF BULK AT MOST 1048576: true; the input reads as it did. -/
def modelPermittedUptoRow : OpenClaim := { program := "ytnopaopphmjnmaagreatdoor", sum := "dced8ade91ef5e8f5cb0a07e37a0c246fc397f96d35a9281d15adb4383d7561f", func := "onair/onairlaw29.ModelPermitted", spec := "modelPermitted", inPlace := ["maps.clone", "slices.overlaps[onair/api.Entry]"], unfollowed := true, recurses := true, named := ["onair/timecode.rates"], plainKeys := false, apart := false, laid := [("onair/timecode.rates", laid_onair_timecode_rates)], narrowed := true }
def ModelPermittedUptoSaid : Prop := modelPermittedUptoRow.holds Tryz.pinned (OpenSpec.upto modelPermittedSpec)

/-- 'onairlaw29.ModelOne', WHERE WHAT IT READS IS OF BULK AT MOST 1048576: true; the input reads as it did. -/
def modelOneUptoRow : OpenClaim := { program := "ytnopaopphmjnmaagreatdoor", sum := "dced8ade91ef5e8f5cb0a07e37a0c246fc397f96d35a9281d15adb4383d7561f", func := "onair/onairlaw29.ModelOne", spec := "modelOne", inPlace := ["maps.clone", "slices.overlaps[onair/api.Entry]"], unfollowed := true, recurses := true, named := ["onair/timecode.rates"], plainKeys := false, apart := false, laid := [("onair/timecode.rates", laid_onair_timecode_rates)], narrowed := true }
def ModelOneUptoSaid : Prop := modelOneUptoRow.holds Tryz.pinned (OpenSpec.upto modelOneSpec)

/-- 'onairlaw29.ModelEarlier', WHERE WHAT IT READS IS OF BULK AT MOST 1048576: true; the input reads as it did. -/
def modelEarlierUptoRow : OpenClaim := { program := "ytnopaopphmjnmaagreatdoor", sum := "dced8ade91ef5e8f5cb0a07e37a0c246fc397f96d35a9281d15adb4383d7561f", func := "onair/onairlaw29.ModelEarlier", spec := "modelEarlier", inPlace := ["maps.clone", "slices.overlaps[onair/api.Entry]"], unfollowed := true, recurses := true, named := ["onair/timecode.rates"], plainKeys := false, apart := false, laid := [("onair/timecode.rates", laid_onair_timecode_rates)], narrowed := true }
def ModelEarlierUptoSaid : Prop := modelEarlierUptoRow.holds Tryz.pinned (OpenSpec.upto modelEarlierSpec)

/-- 'onairlaw29.ModelRefuses', WHERE WHAT IT READS IS OF BULK AT MOST 1048576: true; the input reads as it did. -/
def modelRefusesUptoRow : OpenClaim := { program := "ytnopaopphmjnmaagreatdoor", sum := "dced8ade91ef5e8f5cb0a07e37a0c246fc397f96d35a9281d15adb4383d7561f", func := "onair/onairlaw29.ModelRefuses", spec := "modelRefuses", inPlace := ["maps.clone", "slices.overlaps[onair/api.Entry]"], unfollowed := true, recurses := true, named := ["onair/timecode.rates"], plainKeys := false, apart := false, laid := [("onair/timecode.rates", laid_onair_timecode_rates)], narrowed := true }
def ModelRefusesUptoSaid : Prop := modelRefusesUptoRow.holds Tryz.pinned (OpenSpec.upto modelRefusesSpec)

/-- 'onairlaw29.ModelBlackout', WHERE WHAT IT READS IS OF BULK AT MOST 1048576: true; the input reads as it did. -/
def modelBlackoutUptoRow : OpenClaim := { program := "ytnopaopphmjnmaagreatdoor", sum := "dced8ade91ef5e8f5cb0a07e37a0c246fc397f96d35a9281d15adb4383d7561f", func := "onair/onairlaw29.ModelBlackout", spec := "modelBlackout", inPlace := ["maps.clone", "slices.overlaps[onair/api.Entry]"], unfollowed := true, recurses := true, named := ["onair/timecode.rates"], plainKeys := false, apart := false, laid := [("onair/timecode.rates", laid_onair_timecode_rates)], narrowed := true }
def ModelBlackoutUptoSaid : Prop := modelBlackoutUptoRow.holds Tryz.pinned (OpenSpec.upto modelBlackoutSpec)

/-- 'onairlaw29.ModelPrograms', WHERE WHAT IT READS IS OF BULK AT MOST 1048576: true; the input reads as it did. -/
def modelProgramsUptoRow : OpenClaim := { program := "ytnopaopphmjnmaagreatdoor", sum := "dced8ade91ef5e8f5cb0a07e37a0c246fc397f96d35a9281d15adb4383d7561f", func := "onair/onairlaw29.ModelPrograms", spec := "modelPrograms", inPlace := ["maps.clone", "slices.overlaps[onair/api.Entry]"], unfollowed := true, recurses := true, named := ["onair/timecode.rates"], plainKeys := false, apart := false, laid := [("onair/timecode.rates", laid_onair_timecode_rates)], narrowed := true }
def ModelProgramsUptoSaid : Prop := modelProgramsUptoRow.holds Tryz.pinned (OpenSpec.upto modelProgramsSpec)

end Rows
end Go.Proofs.YtnopaopphmjnmaaGreatDoor
