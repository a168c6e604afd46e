/-
  NARROWER THAN 'FOR EVERY INPUT', by the rows' own cells (each row's printed sentence says how): ReplanKeepsPast: laid · ReplanCovers: laid · ReplanPermitted: laid · ReplanOnce: laid · ReplanOthers: laid · ReplanCues: laid · ReplanBlackout: laid · ReplanSold: laid.
  DERIVED. THE GIVEN ROWS OF THIS SEAT. 8 by the template 'for every input the law returns true; each argument reads behind the call as it read before'; 0 by the template 'total and deterministic' (their statements: YthjppoincojfkaaGreatDoorTotals.lean).
  GIVEN WITH THE SEED: the statements are not yours to turn. If you find one false, say at which input.
  Laid BY PROGRAM, IN A SANDBOX (cutbox-rows.mjs): the forced cells as the released guide's own fill.sh prints them over the translation fb43ec57f2200eeb… (all of the seat's roots in one cut). By AI agents, Wed Nov 11 2026. No macro, syntax, notation, axiom, sorry.
-/
import Derived.Test.YthjppoincojfkaaGreatDoorChecked
import GoSem.Claim
import GoSem.ClaimJoined
import GoSem.ClaimMapViews
import Derived.JoinedTies
import Derived.KernelRfl
namespace Go.Proofs.YthjppoincojfkaaGreatDoor
/- THE CELL 'sum', in the pinned program and in every row, IS THE sha256 OF THE DUMP (.gsa) THAT YthjppoincojfkaaGreatDoorProg.lean LOADS. Nothing in Lean hashes anything: it is a label: what it is worth is what the hold of that sum in a sandbox is worth. -/
noncomputable def Tryz.pinned : Pinned := { name := "ythjppoincojfkaagreatdoor", sum := "fb43ec57f2200eebedf7ca0f7ead8d5f0a890784a39a67e7f68661ec05dae471", checked := Tryz.checked }
namespace Rows
def none {H : Type} : Left H := { results := [], args := [] }

/- WHAT THE LISTED PACKAGE-LEVEL VARIABLES READ AS WHEN THE CALL BEGINS. Each datum BY PROGRAM (the guide's laid-datum.mjs) off the statement by which the dump's own 'gosem.cut.vars' lays the variable. In a bare row this is a premise. The card (YthjppoincojfkaaGreatDoorCards.lean) ties it to the program's text. -/
def laid_onair_timecode_rates {H : Type} : DataW H := .agg [.agg [.agg [.lit (.int .i64 24000), .lit (.int .i64 1001)], .lit (.int .i64 24), .lit (.int .i64 0)], .agg [.agg [.lit (.int .i64 24), .lit (.int .i64 1)], .lit (.int .i64 24), .lit (.int .i64 0)], .agg [.agg [.lit (.int .i64 25), .lit (.int .i64 1)], .lit (.int .i64 25), .lit (.int .i64 0)], .agg [.agg [.lit (.int .i64 30000), .lit (.int .i64 1001)], .lit (.int .i64 30), .lit (.int .i64 2)], .agg [.agg [.lit (.int .i64 30), .lit (.int .i64 1)], .lit (.int .i64 30), .lit (.int .i64 0)], .agg [.agg [.lit (.int .i64 50), .lit (.int .i64 1)], .lit (.int .i64 50), .lit (.int .i64 0)], .agg [.agg [.lit (.int .i64 60000), .lit (.int .i64 1001)], .lit (.int .i64 60), .lit (.int .i64 4)], .agg [.agg [.lit (.int .i64 60), .lit (.int .i64 1)], .lit (.int .i64 60), .lit (.int .i64 0)]]
def laid_onair_replan_errWire {H : Type} : DataW H := .iface "*errors.errorString" (.ptr (.agg [.lit (.string [110, 111, 32, 101, 110, 99, 111, 100, 105, 110, 103])]))
def laid_onair_replan_errReplan {H : Type} : DataW H := .iface "*errors.errorString" (.ptr (.agg [.lit (.string [110, 111, 32, 111, 114, 100, 101, 114])]))

/-- 'onairlaw15.ReplanKeepsPast': WHATEVER THE INPUT: true; the input reads as it did. -/
def replanKeepsPastSpec : ChangeSpec := { name := "replanKeepsPast", fn := fun _ => fun
  | [d1, d2] => { results := [.lit (.bool true)], args := [d1, d2] }
  | _ => none }
def replanKeepsPastRow : OpenClaim := { program := "ythjppoincojfkaagreatdoor", sum := "fb43ec57f2200eebedf7ca0f7ead8d5f0a890784a39a67e7f68661ec05dae471", func := "onair/onairlaw15.ReplanKeepsPast", spec := "replanKeepsPast", inPlace := ["maps.clone", "slices.overlaps[onair/api.Entry]", "internal/abi.NoEscape", "internal/reflectlite.TypeOf"], unfollowed := true, recurses := true, named := ["onair/timecode.rates", "onair/replan.errReplan", "onair/replan.errWire"], plainKeys := false, apart := false, laid := [("onair/timecode.rates", laid_onair_timecode_rates), ("onair/replan.errWire", laid_onair_replan_errWire), ("onair/replan.errReplan", laid_onair_replan_errReplan)] }
def ReplanKeepsPastSaid : Prop := replanKeepsPastRow.holds Tryz.pinned (OpenSpec.ofChange replanKeepsPastSpec)

/-- ITS FALSE NEIGHBOUR: 'it returns false'. Refute it at one input. -/
def replanKeepsPastWrong : ChangeSpec := { name := "replanKeepsPast", fn := fun _ => fun
  | [d1, d2] => { results := [.lit (.bool false)], args := [d1, d2] }
  | _ => none }
def ReplanKeepsPastWrongFalsely : Prop := replanKeepsPastRow.holds Tryz.pinned (OpenSpec.ofChange replanKeepsPastWrong)

/-- 'onairlaw15.ReplanCovers': WHATEVER THE INPUT: true; the input reads as it did. -/
def replanCoversSpec : ChangeSpec := { name := "replanCovers", fn := fun _ => fun
  | [d1, d2] => { results := [.lit (.bool true)], args := [d1, d2] }
  | _ => none }
def replanCoversRow : OpenClaim := { program := "ythjppoincojfkaagreatdoor", sum := "fb43ec57f2200eebedf7ca0f7ead8d5f0a890784a39a67e7f68661ec05dae471", func := "onair/onairlaw15.ReplanCovers", spec := "replanCovers", inPlace := ["maps.clone", "slices.overlaps[onair/api.Entry]", "internal/abi.NoEscape", "internal/reflectlite.TypeOf"], unfollowed := true, recurses := true, named := ["onair/timecode.rates", "onair/replan.errReplan", "onair/replan.errWire"], plainKeys := false, apart := false, laid := [("onair/timecode.rates", laid_onair_timecode_rates), ("onair/replan.errWire", laid_onair_replan_errWire), ("onair/replan.errReplan", laid_onair_replan_errReplan)] }
def ReplanCoversSaid : Prop := replanCoversRow.holds Tryz.pinned (OpenSpec.ofChange replanCoversSpec)

/-- ITS FALSE NEIGHBOUR: 'it returns false'. Refute it at one input. -/
def replanCoversWrong : ChangeSpec := { name := "replanCovers", fn := fun _ => fun
  | [d1, d2] => { results := [.lit (.bool false)], args := [d1, d2] }
  | _ => none }
def ReplanCoversWrongFalsely : Prop := replanCoversRow.holds Tryz.pinned (OpenSpec.ofChange replanCoversWrong)

/-- 'onairlaw15.ReplanPermitted': WHATEVER THE INPUT: true; the input reads as it did. -/
def replanPermittedSpec : ChangeSpec := { name := "replanPermitted", fn := fun _ => fun
  | [d1, d2] => { results := [.lit (.bool true)], args := [d1, d2] }
  | _ => none }
def replanPermittedRow : OpenClaim := { program := "ythjppoincojfkaagreatdoor", sum := "fb43ec57f2200eebedf7ca0f7ead8d5f0a890784a39a67e7f68661ec05dae471", func := "onair/onairlaw15.ReplanPermitted", spec := "replanPermitted", inPlace := ["maps.clone", "slices.overlaps[onair/api.Entry]", "internal/abi.NoEscape", "internal/reflectlite.TypeOf"], unfollowed := true, recurses := true, named := ["onair/timecode.rates", "onair/replan.errReplan", "onair/replan.errWire"], plainKeys := false, apart := false, laid := [("onair/timecode.rates", laid_onair_timecode_rates), ("onair/replan.errWire", laid_onair_replan_errWire), ("onair/replan.errReplan", laid_onair_replan_errReplan)] }
def ReplanPermittedSaid : Prop := replanPermittedRow.holds Tryz.pinned (OpenSpec.ofChange replanPermittedSpec)

/-- ITS FALSE NEIGHBOUR: 'it returns false'. Refute it at one input. -/
def replanPermittedWrong : ChangeSpec := { name := "replanPermitted", fn := fun _ => fun
  | [d1, d2] => { results := [.lit (.bool false)], args := [d1, d2] }
  | _ => none }
def ReplanPermittedWrongFalsely : Prop := replanPermittedRow.holds Tryz.pinned (OpenSpec.ofChange replanPermittedWrong)

/-- 'onairlaw15.ReplanOnce': WHATEVER THE INPUT: true; the input reads as it did. -/
def replanOnceSpec : ChangeSpec := { name := "replanOnce", fn := fun _ => fun
  | [d1, d2] => { results := [.lit (.bool true)], args := [d1, d2] }
  | _ => none }
def replanOnceRow : OpenClaim := { program := "ythjppoincojfkaagreatdoor", sum := "fb43ec57f2200eebedf7ca0f7ead8d5f0a890784a39a67e7f68661ec05dae471", func := "onair/onairlaw15.ReplanOnce", spec := "replanOnce", inPlace := ["maps.clone", "slices.overlaps[onair/api.Entry]", "internal/abi.NoEscape", "internal/reflectlite.TypeOf"], unfollowed := true, recurses := true, named := ["onair/timecode.rates", "onair/replan.errReplan", "onair/replan.errWire"], plainKeys := false, apart := false, laid := [("onair/timecode.rates", laid_onair_timecode_rates), ("onair/replan.errWire", laid_onair_replan_errWire), ("onair/replan.errReplan", laid_onair_replan_errReplan)] }
def ReplanOnceSaid : Prop := replanOnceRow.holds Tryz.pinned (OpenSpec.ofChange replanOnceSpec)

/-- ITS FALSE NEIGHBOUR: 'it returns false'. Refute it at one input. -/
def replanOnceWrong : ChangeSpec := { name := "replanOnce", fn := fun _ => fun
  | [d1, d2] => { results := [.lit (.bool false)], args := [d1, d2] }
  | _ => none }
def ReplanOnceWrongFalsely : Prop := replanOnceRow.holds Tryz.pinned (OpenSpec.ofChange replanOnceWrong)

/-- 'onairlaw15.ReplanOthers': WHATEVER THE INPUT: true; the input reads as it did. -/
def replanOthersSpec : ChangeSpec := { name := "replanOthers", fn := fun _ => fun
  | [d1, d2] => { results := [.lit (.bool true)], args := [d1, d2] }
  | _ => none }
def replanOthersRow : OpenClaim := { program := "ythjppoincojfkaagreatdoor", sum := "fb43ec57f2200eebedf7ca0f7ead8d5f0a890784a39a67e7f68661ec05dae471", func := "onair/onairlaw15.ReplanOthers", spec := "replanOthers", inPlace := ["maps.clone", "slices.overlaps[onair/api.Entry]", "internal/abi.NoEscape", "internal/reflectlite.TypeOf"], unfollowed := true, recurses := true, named := ["onair/timecode.rates", "onair/replan.errReplan", "onair/replan.errWire"], plainKeys := false, apart := false, laid := [("onair/timecode.rates", laid_onair_timecode_rates), ("onair/replan.errWire", laid_onair_replan_errWire), ("onair/replan.errReplan", laid_onair_replan_errReplan)] }
def ReplanOthersSaid : Prop := replanOthersRow.holds Tryz.pinned (OpenSpec.ofChange replanOthersSpec)

/-- ITS FALSE NEIGHBOUR: 'it returns false'. Refute it at one input. -/
def replanOthersWrong : ChangeSpec := { name := "replanOthers", fn := fun _ => fun
  | [d1, d2] => { results := [.lit (.bool false)], args := [d1, d2] }
  | _ => none }
def ReplanOthersWrongFalsely : Prop := replanOthersRow.holds Tryz.pinned (OpenSpec.ofChange replanOthersWrong)

/-- 'onairlaw15.ReplanCues': WHATEVER THE INPUT: true; the input reads as it did. -/
def replanCuesSpec : ChangeSpec := { name := "replanCues", fn := fun _ => fun
  | [d1, d2, d3, d4] => { results := [.lit (.bool true)], args := [d1, d2, d3, d4] }
  | _ => none }
def replanCuesRow : OpenClaim := { program := "ythjppoincojfkaagreatdoor", sum := "fb43ec57f2200eebedf7ca0f7ead8d5f0a890784a39a67e7f68661ec05dae471", func := "onair/onairlaw15.ReplanCues", spec := "replanCues", inPlace := ["maps.clone", "slices.overlaps[onair/api.Entry]", "internal/abi.NoEscape", "internal/reflectlite.TypeOf"], unfollowed := true, recurses := true, named := ["onair/timecode.rates", "onair/replan.errReplan", "onair/replan.errWire"], plainKeys := false, apart := false, laid := [("onair/timecode.rates", laid_onair_timecode_rates), ("onair/replan.errWire", laid_onair_replan_errWire), ("onair/replan.errReplan", laid_onair_replan_errReplan)] }
def ReplanCuesSaid : Prop := replanCuesRow.holds Tryz.pinned (OpenSpec.ofChange replanCuesSpec)

/-- ITS FALSE NEIGHBOUR: 'it returns false'. Refute it at one input. -/
def replanCuesWrong : ChangeSpec := { name := "replanCues", fn := fun _ => fun
  | [d1, d2, d3, d4] => { results := [.lit (.bool false)], args := [d1, d2, d3, d4] }
  | _ => none }
def ReplanCuesWrongFalsely : Prop := replanCuesRow.holds Tryz.pinned (OpenSpec.ofChange replanCuesWrong)

/-- 'onairlaw15.ReplanBlackout': WHATEVER THE INPUT: true; the input reads as it did. -/
def replanBlackoutSpec : ChangeSpec := { name := "replanBlackout", fn := fun _ => fun
  | [d1, d2, d3, d4] => { results := [.lit (.bool true)], args := [d1, d2, d3, d4] }
  | _ => none }
def replanBlackoutRow : OpenClaim := { program := "ythjppoincojfkaagreatdoor", sum := "fb43ec57f2200eebedf7ca0f7ead8d5f0a890784a39a67e7f68661ec05dae471", func := "onair/onairlaw15.ReplanBlackout", spec := "replanBlackout", inPlace := ["maps.clone", "slices.overlaps[onair/api.Entry]", "internal/abi.NoEscape", "internal/reflectlite.TypeOf"], unfollowed := true, recurses := true, named := ["onair/timecode.rates", "onair/replan.errReplan", "onair/replan.errWire"], plainKeys := false, apart := false, laid := [("onair/timecode.rates", laid_onair_timecode_rates), ("onair/replan.errWire", laid_onair_replan_errWire), ("onair/replan.errReplan", laid_onair_replan_errReplan)] }
def ReplanBlackoutSaid : Prop := replanBlackoutRow.holds Tryz.pinned (OpenSpec.ofChange replanBlackoutSpec)

/-- ITS FALSE NEIGHBOUR: 'it returns false'. Refute it at one input. -/
def replanBlackoutWrong : ChangeSpec := { name := "replanBlackout", fn := fun _ => fun
  | [d1, d2, d3, d4] => { results := [.lit (.bool false)], args := [d1, d2, d3, d4] }
  | _ => none }
def ReplanBlackoutWrongFalsely : Prop := replanBlackoutRow.holds Tryz.pinned (OpenSpec.ofChange replanBlackoutWrong)

/-- 'onairlaw15.ReplanSold': WHATEVER THE INPUT: true; the input reads as it did. -/
def replanSoldSpec : ChangeSpec := { name := "replanSold", fn := fun _ => fun
  | [d1, d2, d3] => { results := [.lit (.bool true)], args := [d1, d2, d3] }
  | _ => none }
def replanSoldRow : OpenClaim := { program := "ythjppoincojfkaagreatdoor", sum := "fb43ec57f2200eebedf7ca0f7ead8d5f0a890784a39a67e7f68661ec05dae471", func := "onair/onairlaw15.ReplanSold", spec := "replanSold", inPlace := ["maps.clone", "slices.overlaps[onair/api.Entry]", "internal/abi.NoEscape", "internal/reflectlite.TypeOf"], unfollowed := true, recurses := true, named := ["onair/timecode.rates", "onair/replan.errReplan", "onair/replan.errWire"], plainKeys := false, apart := false, laid := [("onair/timecode.rates", laid_onair_timecode_rates), ("onair/replan.errWire", laid_onair_replan_errWire), ("onair/replan.errReplan", laid_onair_replan_errReplan)] }
def ReplanSoldSaid : Prop := replanSoldRow.holds Tryz.pinned (OpenSpec.ofChange replanSoldSpec)

/-- ITS FALSE NEIGHBOUR: 'it returns false'. Refute it at one input. -/
def replanSoldWrong : ChangeSpec := { name := "replanSold", fn := fun _ => fun
  | [d1, d2, d3] => { results := [.lit (.bool false)], args := [d1, d2, d3] }
  | _ => none }
def ReplanSoldWrongFalsely : Prop := replanSoldRow.holds Tryz.pinned (OpenSpec.ofChange replanSoldWrong)

/- THE SECOND FORM. 'bulk': how many values and letters a reading holds, each counted each time it is reached (what is shared counts as often as it is met; a slice's spare places count too). A statement '..UptoSaid' is the law's where the arguments, and the package variables that the reading takes, are together of bulk at most 1048576: NARROWER than '..Said'. Prove '..Said' where nothing that the law and all that it calls make is longer than what came in: it says more and counts as full. Else prove '..UptoSaid'. A law counts once. -/
mutual
def uptoBulk {H : Type} : DataW H → Nat
  | .lit (.string bytes) => bytes.length + 1
  | .lit _ => 1
  | .nil => 1
  | .ptr d => uptoBulk d + 1
  | .slice elems spare => uptoBulkAll elems + uptoBulkAll spare + 1
  | .agg parts => uptoBulkAll parts + 1
  | .iface _ d => uptoBulk d + 1
  | .map entries => uptoBulkEntries entries + 1
  | .held _ => 1
def uptoBulkAll {H : Type} : List (DataW H) → Nat
  | [] => 0
  | d :: r => uptoBulk d + uptoBulkAll r
def uptoBulkEntries {H : Type} : List (Lit × DataW H) → Nat
  | [] => 0
  | x :: r => uptoBulkEntry x + uptoBulkEntries r
def uptoBulkEntry {H : Type} : Lit × DataW H → Nat
  | (.string bytes, d) => bytes.length + uptoBulk d + 1
  | (_, d) => uptoBulk d + 1
 end
def uptoSmall : (H : Type) → List (DataW H) → Bool := fun _ ds => decide (uptoBulkAll ds ≤ 1048576)
def OpenSpec.upto (s : _root_.Go.ChangeSpec) : _root_.Go.OpenSpec := { _root_.Go.OpenSpec.ofChange s with cond := some uptoSmall }

/-- 'onairlaw15.ReplanKeepsPast', WHERE WHAT IT READS IS OF BULK AT MOST 1048576: true; the input reads as it did. -/
def replanKeepsPastUptoRow : OpenClaim := { program := "ythjppoincojfkaagreatdoor", sum := "fb43ec57f2200eebedf7ca0f7ead8d5f0a890784a39a67e7f68661ec05dae471", func := "onair/onairlaw15.ReplanKeepsPast", spec := "replanKeepsPast", inPlace := ["maps.clone", "slices.overlaps[onair/api.Entry]", "internal/abi.NoEscape", "internal/reflectlite.TypeOf"], unfollowed := true, recurses := true, named := ["onair/timecode.rates", "onair/replan.errReplan", "onair/replan.errWire"], plainKeys := false, apart := false, laid := [("onair/timecode.rates", laid_onair_timecode_rates), ("onair/replan.errWire", laid_onair_replan_errWire), ("onair/replan.errReplan", laid_onair_replan_errReplan)], narrowed := true }
def ReplanKeepsPastUptoSaid : Prop := replanKeepsPastUptoRow.holds Tryz.pinned (OpenSpec.upto replanKeepsPastSpec)

/-- 'onairlaw15.ReplanCovers', WHERE WHAT IT READS IS OF BULK AT MOST 1048576: true; the input reads as it did. -/
def replanCoversUptoRow : OpenClaim := { program := "ythjppoincojfkaagreatdoor", sum := "fb43ec57f2200eebedf7ca0f7ead8d5f0a890784a39a67e7f68661ec05dae471", func := "onair/onairlaw15.ReplanCovers", spec := "replanCovers", inPlace := ["maps.clone", "slices.overlaps[onair/api.Entry]", "internal/abi.NoEscape", "internal/reflectlite.TypeOf"], unfollowed := true, recurses := true, named := ["onair/timecode.rates", "onair/replan.errReplan", "onair/replan.errWire"], plainKeys := false, apart := false, laid := [("onair/timecode.rates", laid_onair_timecode_rates), ("onair/replan.errWire", laid_onair_replan_errWire), ("onair/replan.errReplan", laid_onair_replan_errReplan)], narrowed := true }
def ReplanCoversUptoSaid : Prop := replanCoversUptoRow.holds Tryz.pinned (OpenSpec.upto replanCoversSpec)

/-- 'onairlaw15.ReplanPermitted', WHERE WHAT IT READS IS OF BULK AT MOST 1048576: true; the input reads as it did. -/
def replanPermittedUptoRow : OpenClaim := { program := "ythjppoincojfkaagreatdoor", sum := "fb43ec57f2200eebedf7ca0f7ead8d5f0a890784a39a67e7f68661ec05dae471", func := "onair/onairlaw15.ReplanPermitted", spec := "replanPermitted", inPlace := ["maps.clone", "slices.overlaps[onair/api.Entry]", "internal/abi.NoEscape", "internal/reflectlite.TypeOf"], unfollowed := true, recurses := true, named := ["onair/timecode.rates", "onair/replan.errReplan", "onair/replan.errWire"], plainKeys := false, apart := false, laid := [("onair/timecode.rates", laid_onair_timecode_rates), ("onair/replan.errWire", laid_onair_replan_errWire), ("onair/replan.errReplan", laid_onair_replan_errReplan)], narrowed := true }
def ReplanPermittedUptoSaid : Prop := replanPermittedUptoRow.holds Tryz.pinned (OpenSpec.upto replanPermittedSpec)

/-- 'onairlaw15.ReplanOnce', WHERE WHAT IT READS IS OF BULK AT MOST 1048576: true; the input reads as it did. -/
def replanOnceUptoRow : OpenClaim := { program := "ythjppoincojfkaagreatdoor", sum := "fb43ec57f2200eebedf7ca0f7ead8d5f0a890784a39a67e7f68661ec05dae471", func := "onair/onairlaw15.ReplanOnce", spec := "replanOnce", inPlace := ["maps.clone", "slices.overlaps[onair/api.Entry]", "internal/abi.NoEscape", "internal/reflectlite.TypeOf"], unfollowed := true, recurses := true, named := ["onair/timecode.rates", "onair/replan.errReplan", "onair/replan.errWire"], plainKeys := false, apart := false, laid := [("onair/timecode.rates", laid_onair_timecode_rates), ("onair/replan.errWire", laid_onair_replan_errWire), ("onair/replan.errReplan", laid_onair_replan_errReplan)], narrowed := true }
def ReplanOnceUptoSaid : Prop := replanOnceUptoRow.holds Tryz.pinned (OpenSpec.upto replanOnceSpec)

/-- 'onairlaw15.ReplanOthers', WHERE WHAT IT READS IS OF BULK AT MOST 1048576: true; the input reads as it did. -/
def replanOthersUptoRow : OpenClaim := { program := "ythjppoincojfkaagreatdoor", sum := "fb43ec57f2200eebedf7ca0f7ead8d5f0a890784a39a67e7f68661ec05dae471", func := "onair/onairlaw15.ReplanOthers", spec := "replanOthers", inPlace := ["maps.clone", "slices.overlaps[onair/api.Entry]", "internal/abi.NoEscape", "internal/reflectlite.TypeOf"], unfollowed := true, recurses := true, named := ["onair/timecode.rates", "onair/replan.errReplan", "onair/replan.errWire"], plainKeys := false, apart := false, laid := [("onair/timecode.rates", laid_onair_timecode_rates), ("onair/replan.errWire", laid_onair_replan_errWire), ("onair/replan.errReplan", laid_onair_replan_errReplan)], narrowed := true }
def ReplanOthersUptoSaid : Prop := replanOthersUptoRow.holds Tryz.pinned (OpenSpec.upto replanOthersSpec)

/-- 'onairlaw15.ReplanCues', WHERE WHAT IT READS IS OF BULK AT MOST 1048576: true; the input reads as it did. -/
def replanCuesUptoRow : OpenClaim := { program := "ythjppoincojfkaagreatdoor", sum := "fb43ec57f2200eebedf7ca0f7ead8d5f0a890784a39a67e7f68661ec05dae471", func := "onair/onairlaw15.ReplanCues", spec := "replanCues", inPlace := ["maps.clone", "slices.overlaps[onair/api.Entry]", "internal/abi.NoEscape", "internal/reflectlite.TypeOf"], unfollowed := true, recurses := true, named := ["onair/timecode.rates", "onair/replan.errReplan", "onair/replan.errWire"], plainKeys := false, apart := false, laid := [("onair/timecode.rates", laid_onair_timecode_rates), ("onair/replan.errWire", laid_onair_replan_errWire), ("onair/replan.errReplan", laid_onair_replan_errReplan)], narrowed := true }
def ReplanCuesUptoSaid : Prop := replanCuesUptoRow.holds Tryz.pinned (OpenSpec.upto replanCuesSpec)

/-- 'onairlaw15.ReplanBlackout', WHERE WHAT IT READS IS OF BULK AT MOST 1048576: true; the input reads as it did. -/
def replanBlackoutUptoRow : OpenClaim := { program := "ythjppoincojfkaagreatdoor", sum := "fb43ec57f2200eebedf7ca0f7ead8d5f0a890784a39a67e7f68661ec05dae471", func := "onair/onairlaw15.ReplanBlackout", spec := "replanBlackout", inPlace := ["maps.clone", "slices.overlaps[onair/api.Entry]", "internal/abi.NoEscape", "internal/reflectlite.TypeOf"], unfollowed := true, recurses := true, named := ["onair/timecode.rates", "onair/replan.errReplan", "onair/replan.errWire"], plainKeys := false, apart := false, laid := [("onair/timecode.rates", laid_onair_timecode_rates), ("onair/replan.errWire", laid_onair_replan_errWire), ("onair/replan.errReplan", laid_onair_replan_errReplan)], narrowed := true }
def ReplanBlackoutUptoSaid : Prop := replanBlackoutUptoRow.holds Tryz.pinned (OpenSpec.upto replanBlackoutSpec)

/-- 'onairlaw15.ReplanSold', WHERE WHAT IT READS IS OF BULK AT MOST 1048576: true; the input reads as it did. -/
def replanSoldUptoRow : OpenClaim := { program := "ythjppoincojfkaagreatdoor", sum := "fb43ec57f2200eebedf7ca0f7ead8d5f0a890784a39a67e7f68661ec05dae471", func := "onair/onairlaw15.ReplanSold", spec := "replanSold", inPlace := ["maps.clone", "slices.overlaps[onair/api.Entry]", "internal/abi.NoEscape", "internal/reflectlite.TypeOf"], unfollowed := true, recurses := true, named := ["onair/timecode.rates", "onair/replan.errReplan", "onair/replan.errWire"], plainKeys := false, apart := false, laid := [("onair/timecode.rates", laid_onair_timecode_rates), ("onair/replan.errWire", laid_onair_replan_errWire), ("onair/replan.errReplan", laid_onair_replan_errReplan)], narrowed := true }
def ReplanSoldUptoSaid : Prop := replanSoldUptoRow.holds Tryz.pinned (OpenSpec.upto replanSoldSpec)

end Rows
end Go.Proofs.YthjppoincojfkaaGreatDoor
