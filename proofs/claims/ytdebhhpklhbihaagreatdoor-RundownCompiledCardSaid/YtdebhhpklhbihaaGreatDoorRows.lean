/-
  NARROWER THAN 'FOR EVERY INPUT', by the rows' own cells (each row's printed sentence says how): RundownGapless: laid · RundownRights: laid · RundownBefore: laid · RundownItems: laid · RundownCompiled: laid · PlayoutPermitted: laid.
  DERIVED. THE GIVEN ROWS OF THIS SEAT. 6 by the template 'for every input the law returns true; each argument reads behind the call as it read before'; 0 by the template 'total and deterministic' (their statements: YtdebhhpklhbihaaGreatDoorTotals.lean).
  GIVEN WITH THE SEED: the statements are not yours to turn. If you find one false, say at which input.
  Laid BY PROGRAM, IN A SANDBOX (cutbox-rows.mjs): the forced cells as the released guide's own fill.sh prints them over the translation 8a6de2ca9596ae70… (all of the seat's roots in one cut). By AI agents, Wed Nov 11 2026. No macro, syntax, notation, axiom, sorry.
-/
import Derived.Test.YtdebhhpklhbihaaGreatDoorChecked
import GoSem.Claim
import GoSem.ClaimJoined
import GoSem.ClaimMapViews
import Derived.JoinedTies
import Derived.KernelRfl
namespace Go.Proofs.YtdebhhpklhbihaaGreatDoor
/- THE CELL 'sum', in the pinned program and in every row, IS THE sha256 OF THE DUMP (.gsa) THAT YtdebhhpklhbihaaGreatDoorProg.lean LOADS. Nothing in Lean hashes anything: it is a label: what it is worth is what the hold of that sum in a sandbox is worth. -/
noncomputable def Tryz.pinned : Pinned := { name := "ytdebhhpklhbihaagreatdoor", sum := "8a6de2ca9596ae709a7d193f90dc3db123f2924127fcd4b27102065dd1f1fab0", checked := Tryz.checked }
namespace Rows
def none {H : Type} : Left H := { results := [], args := [] }

/- WHAT THE LISTED PACKAGE-LEVEL VARIABLES READ AS WHEN THE CALL BEGINS. Each datum BY PROGRAM (the guide's laid-datum.mjs) off the statement by which the dump's own 'gosem.cut.vars' lays the variable. In a bare row this is a premise. The card (YtdebhhpklhbihaaGreatDoorCards.lean) ties it to the program's text. -/
def laid_onair_timecode_rates {H : Type} : DataW H := .agg [.agg [.agg [.lit (.int .i64 24000), .lit (.int .i64 1001)], .lit (.int .i64 24), .lit (.int .i64 0)], .agg [.agg [.lit (.int .i64 24), .lit (.int .i64 1)], .lit (.int .i64 24), .lit (.int .i64 0)], .agg [.agg [.lit (.int .i64 25), .lit (.int .i64 1)], .lit (.int .i64 25), .lit (.int .i64 0)], .agg [.agg [.lit (.int .i64 30000), .lit (.int .i64 1001)], .lit (.int .i64 30), .lit (.int .i64 2)], .agg [.agg [.lit (.int .i64 30), .lit (.int .i64 1)], .lit (.int .i64 30), .lit (.int .i64 0)], .agg [.agg [.lit (.int .i64 50), .lit (.int .i64 1)], .lit (.int .i64 50), .lit (.int .i64 0)], .agg [.agg [.lit (.int .i64 60000), .lit (.int .i64 1001)], .lit (.int .i64 60), .lit (.int .i64 4)], .agg [.agg [.lit (.int .i64 60), .lit (.int .i64 1)], .lit (.int .i64 60), .lit (.int .i64 0)]]
def laid_onair_wire_remainders {H : Type} : DataW H := .agg [.lit (.int .u32 0), .lit (.int .u32 274646895), .lit (.int .u32 549293790), .lit (.int .u32 820201905), .lit (.int .u32 1098587580), .lit (.int .u32 1361435347), .lit (.int .u32 1640403810), .lit (.int .u32 1905808397), .lit (.int .u32 2197175160), .lit (.int .u32 2460548119), .lit (.int .u32 2722870694), .lit (.int .u32 2987750089), .lit (.int .u32 3280807620), .lit (.int .u32 3553878443), .lit (.int .u32 3811616794), .lit (.int .u32 4084100981)]

/-- 'onairlaw10.RundownGapless': WHATEVER THE INPUT: true; the input reads as it did. -/
def rundownGaplessSpec : ChangeSpec := { name := "rundownGapless", fn := fun _ => fun
  | [d1, d2, d3] => { results := [.lit (.bool true)], args := [d1, d2, d3] }
  | _ => none }
def rundownGaplessRow : OpenClaim := { program := "ytdebhhpklhbihaagreatdoor", sum := "8a6de2ca9596ae709a7d193f90dc3db123f2924127fcd4b27102065dd1f1fab0", func := "onair/onairlaw10.RundownGapless", spec := "rundownGapless", unfollowed := true, recurses := true, named := ["onair/timecode.rates"], plainKeys := false, apart := false, laid := [("onair/timecode.rates", laid_onair_timecode_rates)] }
def RundownGaplessSaid : Prop := rundownGaplessRow.holds Tryz.pinned (OpenSpec.ofChange rundownGaplessSpec)

/-- ITS FALSE NEIGHBOUR: 'it returns false'. Refute it at one input. -/
def rundownGaplessWrong : ChangeSpec := { name := "rundownGapless", fn := fun _ => fun
  | [d1, d2, d3] => { results := [.lit (.bool false)], args := [d1, d2, d3] }
  | _ => none }
def RundownGaplessWrongFalsely : Prop := rundownGaplessRow.holds Tryz.pinned (OpenSpec.ofChange rundownGaplessWrong)

/-- 'onairlaw10.RundownRights': WHATEVER THE INPUT: true; the input reads as it did. -/
def rundownRightsSpec : ChangeSpec := { name := "rundownRights", fn := fun _ => fun
  | [d1, d2, d3] => { results := [.lit (.bool true)], args := [d1, d2, d3] }
  | _ => none }
def rundownRightsRow : OpenClaim := { program := "ytdebhhpklhbihaagreatdoor", sum := "8a6de2ca9596ae709a7d193f90dc3db123f2924127fcd4b27102065dd1f1fab0", func := "onair/onairlaw10.RundownRights", spec := "rundownRights", unfollowed := true, recurses := true, named := ["onair/timecode.rates"], plainKeys := false, apart := false, laid := [("onair/timecode.rates", laid_onair_timecode_rates)] }
def RundownRightsSaid : Prop := rundownRightsRow.holds Tryz.pinned (OpenSpec.ofChange rundownRightsSpec)

/-- ITS FALSE NEIGHBOUR: 'it returns false'. Refute it at one input. -/
def rundownRightsWrong : ChangeSpec := { name := "rundownRights", fn := fun _ => fun
  | [d1, d2, d3] => { results := [.lit (.bool false)], args := [d1, d2, d3] }
  | _ => none }
def RundownRightsWrongFalsely : Prop := rundownRightsRow.holds Tryz.pinned (OpenSpec.ofChange rundownRightsWrong)

/-- 'onairlaw10.RundownBefore': WHATEVER THE INPUT: true; the input reads as it did. -/
def rundownBeforeSpec : ChangeSpec := { name := "rundownBefore", fn := fun _ => fun
  | [d1, d2, d3] => { results := [.lit (.bool true)], args := [d1, d2, d3] }
  | _ => none }
def rundownBeforeRow : OpenClaim := { program := "ytdebhhpklhbihaagreatdoor", sum := "8a6de2ca9596ae709a7d193f90dc3db123f2924127fcd4b27102065dd1f1fab0", func := "onair/onairlaw10.RundownBefore", spec := "rundownBefore", unfollowed := true, recurses := true, named := ["onair/timecode.rates"], plainKeys := false, apart := false, laid := [("onair/timecode.rates", laid_onair_timecode_rates)] }
def RundownBeforeSaid : Prop := rundownBeforeRow.holds Tryz.pinned (OpenSpec.ofChange rundownBeforeSpec)

/-- ITS FALSE NEIGHBOUR: 'it returns false'. Refute it at one input. -/
def rundownBeforeWrong : ChangeSpec := { name := "rundownBefore", fn := fun _ => fun
  | [d1, d2, d3] => { results := [.lit (.bool false)], args := [d1, d2, d3] }
  | _ => none }
def RundownBeforeWrongFalsely : Prop := rundownBeforeRow.holds Tryz.pinned (OpenSpec.ofChange rundownBeforeWrong)

/-- 'onairlaw10.RundownItems': WHATEVER THE INPUT: true; the input reads as it did. -/
def rundownItemsSpec : ChangeSpec := { name := "rundownItems", fn := fun _ => fun
  | [d1, d2] => { results := [.lit (.bool true)], args := [d1, d2] }
  | _ => none }
def rundownItemsRow : OpenClaim := { program := "ytdebhhpklhbihaagreatdoor", sum := "8a6de2ca9596ae709a7d193f90dc3db123f2924127fcd4b27102065dd1f1fab0", func := "onair/onairlaw10.RundownItems", spec := "rundownItems", unfollowed := true, recurses := true, named := ["onair/timecode.rates"], plainKeys := false, apart := false, laid := [("onair/timecode.rates", laid_onair_timecode_rates)] }
def RundownItemsSaid : Prop := rundownItemsRow.holds Tryz.pinned (OpenSpec.ofChange rundownItemsSpec)

/-- ITS FALSE NEIGHBOUR: 'it returns false'. Refute it at one input. -/
def rundownItemsWrong : ChangeSpec := { name := "rundownItems", fn := fun _ => fun
  | [d1, d2] => { results := [.lit (.bool false)], args := [d1, d2] }
  | _ => none }
def RundownItemsWrongFalsely : Prop := rundownItemsRow.holds Tryz.pinned (OpenSpec.ofChange rundownItemsWrong)

/-- 'onairlaw10.RundownCompiled': WHATEVER THE INPUT: true; the input reads as it did. -/
def rundownCompiledSpec : ChangeSpec := { name := "rundownCompiled", fn := fun _ => fun
  | [d] => { results := [.lit (.bool true)], args := [d] }
  | _ => none }
def rundownCompiledRow : OpenClaim := { program := "ytdebhhpklhbihaagreatdoor", sum := "8a6de2ca9596ae709a7d193f90dc3db123f2924127fcd4b27102065dd1f1fab0", func := "onair/onairlaw10.RundownCompiled", spec := "rundownCompiled", inPlace := ["maps.clone"], unfollowed := true, recurses := true, named := ["onair/timecode.rates"], plainKeys := false, apart := false, laid := [("onair/timecode.rates", laid_onair_timecode_rates)] }
def RundownCompiledSaid : Prop := rundownCompiledRow.holds Tryz.pinned (OpenSpec.ofChange rundownCompiledSpec)

/-- ITS FALSE NEIGHBOUR: 'it returns false'. Refute it at one input. -/
def rundownCompiledWrong : ChangeSpec := { name := "rundownCompiled", fn := fun _ => fun
  | [d] => { results := [.lit (.bool false)], args := [d] }
  | _ => none }
def RundownCompiledWrongFalsely : Prop := rundownCompiledRow.holds Tryz.pinned (OpenSpec.ofChange rundownCompiledWrong)

/-- 'onairlaw19.PlayoutPermitted': WHATEVER THE INPUT: true; the input reads as it did. -/
def playoutPermittedSpec : ChangeSpec := { name := "playoutPermitted", fn := fun _ => fun
  | [d1, d2] => { results := [.lit (.bool true)], args := [d1, d2] }
  | _ => none }
def playoutPermittedRow : OpenClaim := { program := "ytdebhhpklhbihaagreatdoor", sum := "8a6de2ca9596ae709a7d193f90dc3db123f2924127fcd4b27102065dd1f1fab0", func := "onair/onairlaw19.PlayoutPermitted", spec := "playoutPermitted", inPlace := ["internal/abi.NoEscape", "internal/bytealg.MakeNoZero", "maps.clone"], unfollowed := true, recurses := true, named := ["onair/wire.remainders", "onair/timecode.rates"], plainKeys := false, apart := false, laid := [("onair/timecode.rates", laid_onair_timecode_rates), ("onair/wire.remainders", laid_onair_wire_remainders)] }
def PlayoutPermittedSaid : Prop := playoutPermittedRow.holds Tryz.pinned (OpenSpec.ofChange playoutPermittedSpec)

/-- ITS FALSE NEIGHBOUR: 'it returns false'. Refute it at one input. -/
def playoutPermittedWrong : ChangeSpec := { name := "playoutPermitted", fn := fun _ => fun
  | [d1, d2] => { results := [.lit (.bool false)], args := [d1, d2] }
  | _ => none }
def PlayoutPermittedWrongFalsely : Prop := playoutPermittedRow.holds Tryz.pinned (OpenSpec.ofChange playoutPermittedWrong)

/- THE SECOND FORM. 'bulk': how many values and letters a reading holds, each counted each time it is reached (what is shared counts as often as it is met; a slice's spare places count too). A statement '..UptoSaid' is the law's where the arguments, and the package variables that the reading takes, are together of bulk at most 1048576: NARROWER than '..Said'. Prove '..Said' where nothing that the law and all that it calls make is longer than what came in: it says more and counts as full. Else prove '..UptoSaid'. A law counts once. -/
mutual
def uptoBulk {H : Type} : DataW H → Nat
  | .lit (.string bytes) => bytes.length + 1
  | .lit _ => 1
  | .nil => 1
  | .ptr d => uptoBulk d + 1
  | .slice elems spare => uptoBulkAll elems + uptoBulkAll spare + 1
  | .agg parts => uptoBulkAll parts + 1
  | .iface _ d => uptoBulk d + 1
  | .map entries => uptoBulkEntries entries + 1
  | .held _ => 1
def uptoBulkAll {H : Type} : List (DataW H) → Nat
  | [] => 0
  | d :: r => uptoBulk d + uptoBulkAll r
def uptoBulkEntries {H : Type} : List (Lit × DataW H) → Nat
  | [] => 0
  | x :: r => uptoBulkEntry x + uptoBulkEntries r
def uptoBulkEntry {H : Type} : Lit × DataW H → Nat
  | (.string bytes, d) => bytes.length + uptoBulk d + 1
  | (_, d) => uptoBulk d + 1
 end
def uptoSmall : (H : Type) → List (DataW H) → Bool := fun _ ds => decide (uptoBulkAll ds ≤ 1048576)
def OpenSpec.upto (s : _root_.Go.ChangeSpec) : _root_.Go.OpenSpec := { _root_.Go.OpenSpec.ofChange s with cond := some uptoSmall }

/-- 'onairlaw10.RundownGapless', WHERE WHAT IT READS IS OF BULK AT MOST 1048576: true; the input reads as it did. -/
def rundownGaplessUptoRow : OpenClaim := { program := "ytdebhhpklhbihaagreatdoor", sum := "8a6de2ca9596ae709a7d193f90dc3db123f2924127fcd4b27102065dd1f1fab0", func := "onair/onairlaw10.RundownGapless", spec := "rundownGapless", unfollowed := true, recurses := true, named := ["onair/timecode.rates"], plainKeys := false, apart := false, laid := [("onair/timecode.rates", laid_onair_timecode_rates)], narrowed := true }
def RundownGaplessUptoSaid : Prop := rundownGaplessUptoRow.holds Tryz.pinned (OpenSpec.upto rundownGaplessSpec)

/-- 'onairlaw10.RundownRights', WHERE WHAT IT READS IS OF BULK AT MOST 1048576: true; the input reads as it did. -/
def rundownRightsUptoRow : OpenClaim := { program := "ytdebhhpklhbihaagreatdoor", sum := "8a6de2ca9596ae709a7d193f90dc3db123f2924127fcd4b27102065dd1f1fab0", func := "onair/onairlaw10.RundownRights", spec := "rundownRights", unfollowed := true, recurses := true, named := ["onair/timecode.rates"], plainKeys := false, apart := false, laid := [("onair/timecode.rates", laid_onair_timecode_rates)], narrowed := true }
def RundownRightsUptoSaid : Prop := rundownRightsUptoRow.holds Tryz.pinned (OpenSpec.upto rundownRightsSpec)

/-- 'onairlaw10.RundownBefore', WHERE WHAT IT READS IS OF BULK AT MOST 1048576: true; the input reads as it did. -/
def rundownBeforeUptoRow : OpenClaim := { program := "ytdebhhpklhbihaagreatdoor", sum := "8a6de2ca9596ae709a7d193f90dc3db123f2924127fcd4b27102065dd1f1fab0", func := "onair/onairlaw10.RundownBefore", spec := "rundownBefore", unfollowed := true, recurses := true, named := ["onair/timecode.rates"], plainKeys := false, apart := false, laid := [("onair/timecode.rates", laid_onair_timecode_rates)], narrowed := true }
def RundownBeforeUptoSaid : Prop := rundownBeforeUptoRow.holds Tryz.pinned (OpenSpec.upto rundownBeforeSpec)

/-- 'onairlaw10.RundownItems', WHERE WHAT IT READS IS OF BULK AT MOST 1048576: true; the input reads as it did. -/
def rundownItemsUptoRow : OpenClaim := { program := "ytdebhhpklhbihaagreatdoor", sum := "8a6de2ca9596ae709a7d193f90dc3db123f2924127fcd4b27102065dd1f1fab0", func := "onair/onairlaw10.RundownItems", spec := "rundownItems", unfollowed := true, recurses := true, named := ["onair/timecode.rates"], plainKeys := false, apart := false, laid := [("onair/timecode.rates", laid_onair_timecode_rates)], narrowed := true }
def RundownItemsUptoSaid : Prop := rundownItemsUptoRow.holds Tryz.pinned (OpenSpec.upto rundownItemsSpec)

/-- 'onairlaw10.RundownCompiled', WHERE WHAT IT READS IS OF BULK AT MOST 1048576: true; the input reads as it did. -/
def rundownCompiledUptoRow : OpenClaim := { program := "ytdebhhpklhbihaagreatdoor", sum := "8a6de2ca9596ae709a7d193f90dc3db123f2924127fcd4b27102065dd1f1fab0", func := "onair/onairlaw10.RundownCompiled", spec := "rundownCompiled", inPlace := ["maps.clone"], unfollowed := true, recurses := true, named := ["onair/timecode.rates"], plainKeys := false, apart := false, laid := [("onair/timecode.rates", laid_onair_timecode_rates)], narrowed := true }
def RundownCompiledUptoSaid : Prop := rundownCompiledUptoRow.holds Tryz.pinned (OpenSpec.upto rundownCompiledSpec)

/-- 'onairlaw19.PlayoutPermitted', WHERE WHAT IT READS IS OF BULK AT MOST 1048576: true; the input reads as it did. -/
def playoutPermittedUptoRow : OpenClaim := { program := "ytdebhhpklhbihaagreatdoor", sum := "8a6de2ca9596ae709a7d193f90dc3db123f2924127fcd4b27102065dd1f1fab0", func := "onair/onairlaw19.PlayoutPermitted", spec := "playoutPermitted", inPlace := ["internal/abi.NoEscape", "internal/bytealg.MakeNoZero", "maps.clone"], unfollowed := true, recurses := true, named := ["onair/wire.remainders", "onair/timecode.rates"], plainKeys := false, apart := false, laid := [("onair/timecode.rates", laid_onair_timecode_rates), ("onair/wire.remainders", laid_onair_wire_remainders)], narrowed := true }
def PlayoutPermittedUptoSaid : Prop := playoutPermittedUptoRow.holds Tryz.pinned (OpenSpec.upto playoutPermittedSpec)

end Rows
end Go.Proofs.YtdebhhpklhbihaaGreatDoor
