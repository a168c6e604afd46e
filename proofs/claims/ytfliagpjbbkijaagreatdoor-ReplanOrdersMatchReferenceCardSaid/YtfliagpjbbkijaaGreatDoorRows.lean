/-
  NARROWER THAN 'FOR EVERY INPUT', by the rows' own cells (each row's printed sentence says how): ReplanRoundTrip: laid · ReplanDecodedAgain: laid · ReplanOrdersMatchReference: laid.
  DERIVED. THE GIVEN ROWS OF THIS SEAT. 3 by the template 'for every input the law returns true; each argument reads behind the call as it read before'; 0 by the template 'total and deterministic' (their statements: YtfliagpjbbkijaaGreatDoorTotals.lean).
  GIVEN WITH THE SEED: the statements are not yours to turn. If you find one false, say at which input.
  Laid BY PROGRAM, IN A SANDBOX (cutbox-rows.mjs): the forced cells as the released guide's own fill.sh prints them over the translation de6b8b9e3d15d73e… (all of the seat's roots in one cut). By AI agents, Wed Nov 11 2026. No macro, syntax, notation, axiom, sorry.
-/
import Derived.Test.YtfliagpjbbkijaaGreatDoorChecked
import GoSem.Claim
import GoSem.ClaimJoined
import GoSem.ClaimMapViews
import Derived.JoinedTies
import Derived.KernelRfl
namespace Go.Proofs.YtfliagpjbbkijaaGreatDoor
/- THE CELL 'sum', in the pinned program and in every row, IS THE sha256 OF THE DUMP (.gsa) THAT YtfliagpjbbkijaaGreatDoorProg.lean LOADS. Nothing in Lean hashes anything: it is a label: what it is worth is what the hold of that sum in a sandbox is worth. -/
noncomputable def Tryz.pinned : Pinned := { name := "ytfliagpjbbkijaagreatdoor", sum := "de6b8b9e3d15d73ef63a9f1637284a36b24bd559066af981b93c103b60234162", checked := Tryz.checked }
namespace Rows
def none {H : Type} : Left H := { results := [], args := [] }

/- WHAT THE LISTED PACKAGE-LEVEL VARIABLES READ AS WHEN THE CALL BEGINS. Each datum BY PROGRAM (the guide's laid-datum.mjs) off the statement by which the dump's own 'gosem.cut.vars' lays the variable. In a bare row this is a premise. The card (YtfliagpjbbkijaaGreatDoorCards.lean) ties it to the program's text. -/
def laid_onair_timecode_rates {H : Type} : DataW H := .agg [.agg [.agg [.lit (.int .i64 24000), .lit (.int .i64 1001)], .lit (.int .i64 24), .lit (.int .i64 0)], .agg [.agg [.lit (.int .i64 24), .lit (.int .i64 1)], .lit (.int .i64 24), .lit (.int .i64 0)], .agg [.agg [.lit (.int .i64 25), .lit (.int .i64 1)], .lit (.int .i64 25), .lit (.int .i64 0)], .agg [.agg [.lit (.int .i64 30000), .lit (.int .i64 1001)], .lit (.int .i64 30), .lit (.int .i64 2)], .agg [.agg [.lit (.int .i64 30), .lit (.int .i64 1)], .lit (.int .i64 30), .lit (.int .i64 0)], .agg [.agg [.lit (.int .i64 50), .lit (.int .i64 1)], .lit (.int .i64 50), .lit (.int .i64 0)], .agg [.agg [.lit (.int .i64 60000), .lit (.int .i64 1001)], .lit (.int .i64 60), .lit (.int .i64 4)], .agg [.agg [.lit (.int .i64 60), .lit (.int .i64 1)], .lit (.int .i64 60), .lit (.int .i64 0)]]
def laid_onair_replan_errWire {H : Type} : DataW H := .iface "*errors.errorString" (.ptr (.agg [.lit (.string [110, 111, 32, 101, 110, 99, 111, 100, 105, 110, 103])]))
def laid_onair_replan_errReplan {H : Type} : DataW H := .iface "*errors.errorString" (.ptr (.agg [.lit (.string [110, 111, 32, 111, 114, 100, 101, 114])]))

/-- 'onairlaw15.ReplanRoundTrip': WHATEVER THE INPUT: true; the input reads as it did. -/
def replanRoundTripSpec : ChangeSpec := { name := "replanRoundTrip", fn := fun _ => fun
  | [d1, d2, d3] => { results := [.lit (.bool true)], args := [d1, d2, d3] }
  | _ => none }
def replanRoundTripRow : OpenClaim := { program := "ytfliagpjbbkijaagreatdoor", sum := "de6b8b9e3d15d73ef63a9f1637284a36b24bd559066af981b93c103b60234162", func := "onair/onairlaw15.ReplanRoundTrip", spec := "replanRoundTrip", inPlace := ["maps.clone", "slices.overlaps[onair/api.Entry]", "internal/abi.NoEscape", "internal/reflectlite.TypeOf"], unfollowed := true, recurses := true, named := ["onair/timecode.rates", "onair/replan.errReplan", "onair/replan.errWire"], plainKeys := false, apart := false, laid := [("onair/timecode.rates", laid_onair_timecode_rates), ("onair/replan.errWire", laid_onair_replan_errWire), ("onair/replan.errReplan", laid_onair_replan_errReplan)] }
def ReplanRoundTripSaid : Prop := replanRoundTripRow.holds Tryz.pinned (OpenSpec.ofChange replanRoundTripSpec)

/-- ITS FALSE NEIGHBOUR: 'it returns false'. Refute it at one input. -/
def replanRoundTripWrong : ChangeSpec := { name := "replanRoundTrip", fn := fun _ => fun
  | [d1, d2, d3] => { results := [.lit (.bool false)], args := [d1, d2, d3] }
  | _ => none }
def ReplanRoundTripWrongFalsely : Prop := replanRoundTripRow.holds Tryz.pinned (OpenSpec.ofChange replanRoundTripWrong)

/-- 'onairlaw15.ReplanDecodedAgain': WHATEVER THE INPUT: true; the input reads as it did. -/
def replanDecodedAgainSpec : ChangeSpec := { name := "replanDecodedAgain", fn := fun _ => fun
  | [d] => { results := [.lit (.bool true)], args := [d] }
  | _ => none }
def replanDecodedAgainRow : OpenClaim := { program := "ytfliagpjbbkijaagreatdoor", sum := "de6b8b9e3d15d73ef63a9f1637284a36b24bd559066af981b93c103b60234162", func := "onair/onairlaw15.ReplanDecodedAgain", spec := "replanDecodedAgain", inPlace := ["maps.clone", "slices.overlaps[onair/api.Entry]", "internal/abi.NoEscape", "internal/reflectlite.TypeOf"], unfollowed := true, recurses := true, named := ["onair/timecode.rates", "onair/replan.errReplan", "onair/replan.errWire"], plainKeys := false, apart := false, laid := [("onair/timecode.rates", laid_onair_timecode_rates), ("onair/replan.errWire", laid_onair_replan_errWire), ("onair/replan.errReplan", laid_onair_replan_errReplan)] }
def ReplanDecodedAgainSaid : Prop := replanDecodedAgainRow.holds Tryz.pinned (OpenSpec.ofChange replanDecodedAgainSpec)

/-- ITS FALSE NEIGHBOUR: 'it returns false'. Refute it at one input. -/
def replanDecodedAgainWrong : ChangeSpec := { name := "replanDecodedAgain", fn := fun _ => fun
  | [d] => { results := [.lit (.bool false)], args := [d] }
  | _ => none }
def ReplanDecodedAgainWrongFalsely : Prop := replanDecodedAgainRow.holds Tryz.pinned (OpenSpec.ofChange replanDecodedAgainWrong)

/-- 'onairlaw15.ReplanOrdersMatchReference': WHATEVER THE INPUT: true; the input reads as it did. -/
def replanOrdersMatchReferenceSpec : ChangeSpec := { name := "replanOrdersMatchReference", fn := fun _ => fun
  | [d1, d2] => { results := [.lit (.bool true)], args := [d1, d2] }
  | _ => none }
def replanOrdersMatchReferenceRow : OpenClaim := { program := "ytfliagpjbbkijaagreatdoor", sum := "de6b8b9e3d15d73ef63a9f1637284a36b24bd559066af981b93c103b60234162", func := "onair/onairlaw15.ReplanOrdersMatchReference", spec := "replanOrdersMatchReference", inPlace := ["maps.clone", "slices.overlaps[onair/api.Entry]", "internal/abi.NoEscape", "internal/reflectlite.TypeOf"], unfollowed := true, recurses := true, named := ["onair/timecode.rates", "onair/replan.errReplan", "onair/replan.errWire"], plainKeys := false, apart := false, laid := [("onair/timecode.rates", laid_onair_timecode_rates), ("onair/replan.errWire", laid_onair_replan_errWire), ("onair/replan.errReplan", laid_onair_replan_errReplan)] }
def ReplanOrdersMatchReferenceSaid : Prop := replanOrdersMatchReferenceRow.holds Tryz.pinned (OpenSpec.ofChange replanOrdersMatchReferenceSpec)

/-- ITS FALSE NEIGHBOUR: 'it returns false'. Refute it at one input. -/
def replanOrdersMatchReferenceWrong : ChangeSpec := { name := "replanOrdersMatchReference", fn := fun _ => fun
  | [d1, d2] => { results := [.lit (.bool false)], args := [d1, d2] }
  | _ => none }
def ReplanOrdersMatchReferenceWrongFalsely : Prop := replanOrdersMatchReferenceRow.holds Tryz.pinned (OpenSpec.ofChange replanOrdersMatchReferenceWrong)

/- THE SECOND FORM. 'bulk': how many values and letters a reading holds, each counted each time it is reached (what is shared counts as often as it is met; a slice's spare places count too). A statement '..UptoSaid' is the law's where the arguments, and the package variables that the reading takes, are together of bulk at most 1048576: NARROWER than '..Said'. Prove '..Said' where nothing that the law and all that it calls make is longer than what came in: it says more and counts as full. Else prove '..UptoSaid'. A law counts once. -/
mutual
def uptoBulk {H : Type} : DataW H → Nat
  | .lit (.string bytes) => bytes.length + 1
  | .lit _ => 1
  | .nil => 1
  | .ptr d => uptoBulk d + 1
  | .slice elems spare => uptoBulkAll elems + uptoBulkAll spare + 1
  | .agg parts => uptoBulkAll parts + 1
  | .iface _ d => uptoBulk d + 1
  | .map entries => uptoBulkEntries entries + 1
  | .held _ => 1
def uptoBulkAll {H : Type} : List (DataW H) → Nat
  | [] => 0
  | d :: r => uptoBulk d + uptoBulkAll r
def uptoBulkEntries {H : Type} : List (Lit × DataW H) → Nat
  | [] => 0
  | x :: r => uptoBulkEntry x + uptoBulkEntries r
def uptoBulkEntry {H : Type} : Lit × DataW H → Nat
  | (.string bytes, d) => bytes.length + uptoBulk d + 1
  | (_, d) => uptoBulk d + 1
 end
def uptoSmall : (H : Type) → List (DataW H) → Bool := fun _ ds => decide (uptoBulkAll ds ≤ 1048576)
def OpenSpec.upto (s : _root_.Go.ChangeSpec) : _root_.Go.OpenSpec := { _root_.Go.OpenSpec.ofChange s with cond := some uptoSmall }

/-- 'onairlaw15.ReplanRoundTrip', WHERE WHAT IT READS IS OF BULK AT MOST 1048576: true; the input reads as it did. -/
def replanRoundTripUptoRow : OpenClaim := { program := "ytfliagpjbbkijaagreatdoor", sum := "de6b8b9e3d15d73ef63a9f1637284a36b24bd559066af981b93c103b60234162", func := "onair/onairlaw15.ReplanRoundTrip", spec := "replanRoundTrip", inPlace := ["maps.clone", "slices.overlaps[onair/api.Entry]", "internal/abi.NoEscape", "internal/reflectlite.TypeOf"], unfollowed := true, recurses := true, named := ["onair/timecode.rates", "onair/replan.errReplan", "onair/replan.errWire"], plainKeys := false, apart := false, laid := [("onair/timecode.rates", laid_onair_timecode_rates), ("onair/replan.errWire", laid_onair_replan_errWire), ("onair/replan.errReplan", laid_onair_replan_errReplan)], narrowed := true }
def ReplanRoundTripUptoSaid : Prop := replanRoundTripUptoRow.holds Tryz.pinned (OpenSpec.upto replanRoundTripSpec)

/-- 'onairlaw15.ReplanDecodedAgain', WHERE WHAT IT READS IS OF BULK AT MOST 1048576: true; the input reads as it did. -/
def replanDecodedAgainUptoRow : OpenClaim := { program := "ytfliagpjbbkijaagreatdoor", sum := "de6b8b9e3d15d73ef63a9f1637284a36b24bd559066af981b93c103b60234162", func := "onair/onairlaw15.ReplanDecodedAgain", spec := "replanDecodedAgain", inPlace := ["maps.clone", "slices.overlaps[onair/api.Entry]", "internal/abi.NoEscape", "internal/reflectlite.TypeOf"], unfollowed := true, recurses := true, named := ["onair/timecode.rates", "onair/replan.errReplan", "onair/replan.errWire"], plainKeys := false, apart := false, laid := [("onair/timecode.rates", laid_onair_timecode_rates), ("onair/replan.errWire", laid_onair_replan_errWire), ("onair/replan.errReplan", laid_onair_replan_errReplan)], narrowed := true }
def ReplanDecodedAgainUptoSaid : Prop := replanDecodedAgainUptoRow.holds Tryz.pinned (OpenSpec.upto replanDecodedAgainSpec)

/-- 'onairlaw15.ReplanOrdersMatchReference', WHERE WHAT IT READS IS OF BULK AT MOST 1048576: true; the input reads as it did. -/
def replanOrdersMatchReferenceUptoRow : OpenClaim := { program := "ytfliagpjbbkijaagreatdoor", sum := "de6b8b9e3d15d73ef63a9f1637284a36b24bd559066af981b93c103b60234162", func := "onair/onairlaw15.ReplanOrdersMatchReference", spec := "replanOrdersMatchReference", inPlace := ["maps.clone", "slices.overlaps[onair/api.Entry]", "internal/abi.NoEscape", "internal/reflectlite.TypeOf"], unfollowed := true, recurses := true, named := ["onair/timecode.rates", "onair/replan.errReplan", "onair/replan.errWire"], plainKeys := false, apart := false, laid := [("onair/timecode.rates", laid_onair_timecode_rates), ("onair/replan.errWire", laid_onair_replan_errWire), ("onair/replan.errReplan", laid_onair_replan_errReplan)], narrowed := true }
def ReplanOrdersMatchReferenceUptoSaid : Prop := replanOrdersMatchReferenceUptoRow.holds Tryz.pinned (OpenSpec.upto replanOrdersMatchReferenceSpec)

end Rows
end Go.Proofs.YtfliagpjbbkijaaGreatDoor
