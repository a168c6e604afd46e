/-
  NARROWER THAN 'FOR EVERY INPUT', by the rows' own cells (each row's printed sentence says how): PlayoutGenuineMatchesReference: laid · PlayoutGenuine: laid · PlayoutConsecutive: laid · PlayoutSmooth: laid · PlayoutPast: laid.
  DERIVED. THE GIVEN ROWS OF THIS SEAT. 5 by the template 'for every input the law returns true; each argument reads behind the call as it read before'; 0 by the template 'total and deterministic' (their statements: YtedgjnpaebllpaaDoorTotals.lean).
  GIVEN WITH THE SEED: the statements are not yours to turn. If you find one false, say at which input.
  Laid BY PROGRAM, IN A SANDBOX (cutbox-rows.mjs): the forced cells as the released guide's own fill.sh prints them over the translation ba9452cc4e840438… (all of the seat's roots in one cut). By AI agents, Wed Nov 11 2026. No macro, syntax, notation, axiom, sorry.
-/
import Derived.Test.YtedgjnpaebllpaaDoorChecked
import GoSem.Claim
import GoSem.ClaimJoined
import GoSem.ClaimMapViews
import Derived.JoinedTies
import Derived.KernelRfl
namespace Go.Proofs.YtedgjnpaebllpaaDoor
/- THE CELL 'sum', in the pinned program and in every row, IS THE sha256 OF THE DUMP (.gsa) THAT YtedgjnpaebllpaaDoorProg.lean LOADS. Nothing in Lean hashes anything: it is a label: what it is worth is what the hold of that sum in a sandbox is worth. -/
noncomputable def Tryd.pinned : Pinned := { name := "ytedgjnpaebllpaadoor", sum := "ba9452cc4e840438cdfef4daa36a3091177e64adbbf91d87cdbb3b3d21ebb728", checked := Tryd.checked }
namespace Rows
def none {H : Type} : Left H := { results := [], args := [] }

/- WHAT THE LISTED PACKAGE-LEVEL VARIABLES READ AS WHEN THE CALL BEGINS. Each datum BY PROGRAM (the guide's laid-datum.mjs) off the statement by which the dump's own 'gosem.cut.vars' lays the variable. In a bare row this is a premise. The card (YtedgjnpaebllpaaDoorCards.lean) ties it to the program's text. -/
def laid_onair_wire_remainders {H : Type} : DataW H := .agg [.lit (.int .u32 0), .lit (.int .u32 274646895), .lit (.int .u32 549293790), .lit (.int .u32 820201905), .lit (.int .u32 1098587580), .lit (.int .u32 1361435347), .lit (.int .u32 1640403810), .lit (.int .u32 1905808397), .lit (.int .u32 2197175160), .lit (.int .u32 2460548119), .lit (.int .u32 2722870694), .lit (.int .u32 2987750089), .lit (.int .u32 3280807620), .lit (.int .u32 3553878443), .lit (.int .u32 3811616794), .lit (.int .u32 4084100981)]

/-- 'onairlaw19.PlayoutGenuineMatchesReference': WHATEVER THE INPUT: true; the input reads as it did. -/
def playoutGenuineMatchesReferenceSpec : ChangeSpec := { name := "playoutGenuineMatchesReference", fn := fun _ => fun
  | [d1, d2] => { results := [.lit (.bool true)], args := [d1, d2] }
  | _ => none }
def playoutGenuineMatchesReferenceRow : OpenClaim := { program := "ytedgjnpaebllpaadoor", sum := "ba9452cc4e840438cdfef4daa36a3091177e64adbbf91d87cdbb3b3d21ebb728", func := "onair/onairlaw19.PlayoutGenuineMatchesReference", spec := "playoutGenuineMatchesReference", inPlace := ["internal/abi.NoEscape", "internal/bytealg.MakeNoZero"], unfollowed := true, recurses := true, named := ["onair/wire.remainders"], apart := false, laid := [("onair/wire.remainders", laid_onair_wire_remainders)] }
def PlayoutGenuineMatchesReferenceSaid : Prop := playoutGenuineMatchesReferenceRow.holds Tryd.pinned (OpenSpec.ofChange playoutGenuineMatchesReferenceSpec)

/-- ITS FALSE NEIGHBOUR: 'it returns false'. Refute it at one input. -/
def playoutGenuineMatchesReferenceWrong : ChangeSpec := { name := "playoutGenuineMatchesReference", fn := fun _ => fun
  | [d1, d2] => { results := [.lit (.bool false)], args := [d1, d2] }
  | _ => none }
def PlayoutGenuineMatchesReferenceWrongFalsely : Prop := playoutGenuineMatchesReferenceRow.holds Tryd.pinned (OpenSpec.ofChange playoutGenuineMatchesReferenceWrong)

/-- 'onairlaw19.PlayoutGenuine': WHATEVER THE INPUT: true; the input reads as it did. -/
def playoutGenuineSpec : ChangeSpec := { name := "playoutGenuine", fn := fun _ => fun
  | [d1, d2, d3, d4] => { results := [.lit (.bool true)], args := [d1, d2, d3, d4] }
  | _ => none }
def playoutGenuineRow : OpenClaim := { program := "ytedgjnpaebllpaadoor", sum := "ba9452cc4e840438cdfef4daa36a3091177e64adbbf91d87cdbb3b3d21ebb728", func := "onair/onairlaw19.PlayoutGenuine", spec := "playoutGenuine", inPlace := ["internal/abi.NoEscape", "internal/bytealg.MakeNoZero"], unfollowed := true, recurses := true, named := ["onair/wire.remainders"], apart := false, laid := [("onair/wire.remainders", laid_onair_wire_remainders)] }
def PlayoutGenuineSaid : Prop := playoutGenuineRow.holds Tryd.pinned (OpenSpec.ofChange playoutGenuineSpec)

/-- ITS FALSE NEIGHBOUR: 'it returns false'. Refute it at one input. -/
def playoutGenuineWrong : ChangeSpec := { name := "playoutGenuine", fn := fun _ => fun
  | [d1, d2, d3, d4] => { results := [.lit (.bool false)], args := [d1, d2, d3, d4] }
  | _ => none }
def PlayoutGenuineWrongFalsely : Prop := playoutGenuineRow.holds Tryd.pinned (OpenSpec.ofChange playoutGenuineWrong)

/-- 'onairlaw19.PlayoutConsecutive': WHATEVER THE INPUT: true; the input reads as it did. -/
def playoutConsecutiveSpec : ChangeSpec := { name := "playoutConsecutive", fn := fun _ => fun
  | [d1, d2, d3, d4] => { results := [.lit (.bool true)], args := [d1, d2, d3, d4] }
  | _ => none }
def playoutConsecutiveRow : OpenClaim := { program := "ytedgjnpaebllpaadoor", sum := "ba9452cc4e840438cdfef4daa36a3091177e64adbbf91d87cdbb3b3d21ebb728", func := "onair/onairlaw19.PlayoutConsecutive", spec := "playoutConsecutive", inPlace := ["internal/abi.NoEscape", "internal/bytealg.MakeNoZero"], unfollowed := true, recurses := true, named := ["onair/wire.remainders"], apart := false, laid := [("onair/wire.remainders", laid_onair_wire_remainders)] }
def PlayoutConsecutiveSaid : Prop := playoutConsecutiveRow.holds Tryd.pinned (OpenSpec.ofChange playoutConsecutiveSpec)

/-- ITS FALSE NEIGHBOUR: 'it returns false'. Refute it at one input. -/
def playoutConsecutiveWrong : ChangeSpec := { name := "playoutConsecutive", fn := fun _ => fun
  | [d1, d2, d3, d4] => { results := [.lit (.bool false)], args := [d1, d2, d3, d4] }
  | _ => none }
def PlayoutConsecutiveWrongFalsely : Prop := playoutConsecutiveRow.holds Tryd.pinned (OpenSpec.ofChange playoutConsecutiveWrong)

/-- 'onairlaw19.PlayoutSmooth': WHATEVER THE INPUT: true; the input reads as it did. -/
def playoutSmoothSpec : ChangeSpec := { name := "playoutSmooth", fn := fun _ => fun
  | [d1, d2, d3, d4] => { results := [.lit (.bool true)], args := [d1, d2, d3, d4] }
  | _ => none }
def playoutSmoothRow : OpenClaim := { program := "ytedgjnpaebllpaadoor", sum := "ba9452cc4e840438cdfef4daa36a3091177e64adbbf91d87cdbb3b3d21ebb728", func := "onair/onairlaw19.PlayoutSmooth", spec := "playoutSmooth", inPlace := ["internal/abi.NoEscape", "internal/bytealg.MakeNoZero"], unfollowed := true, recurses := true, named := ["onair/wire.remainders"], apart := false, laid := [("onair/wire.remainders", laid_onair_wire_remainders)] }
def PlayoutSmoothSaid : Prop := playoutSmoothRow.holds Tryd.pinned (OpenSpec.ofChange playoutSmoothSpec)

/-- ITS FALSE NEIGHBOUR: 'it returns false'. Refute it at one input. -/
def playoutSmoothWrong : ChangeSpec := { name := "playoutSmooth", fn := fun _ => fun
  | [d1, d2, d3, d4] => { results := [.lit (.bool false)], args := [d1, d2, d3, d4] }
  | _ => none }
def PlayoutSmoothWrongFalsely : Prop := playoutSmoothRow.holds Tryd.pinned (OpenSpec.ofChange playoutSmoothWrong)

/-- 'onairlaw19.PlayoutPast': WHATEVER THE INPUT: true; the input reads as it did. -/
def playoutPastSpec : ChangeSpec := { name := "playoutPast", fn := fun _ => fun
  | [d1, d2, d3, d4, d5, d6] => { results := [.lit (.bool true)], args := [d1, d2, d3, d4, d5, d6] }
  | _ => none }
def playoutPastRow : OpenClaim := { program := "ytedgjnpaebllpaadoor", sum := "ba9452cc4e840438cdfef4daa36a3091177e64adbbf91d87cdbb3b3d21ebb728", func := "onair/onairlaw19.PlayoutPast", spec := "playoutPast", inPlace := ["internal/abi.NoEscape", "internal/bytealg.MakeNoZero"], unfollowed := true, recurses := true, named := ["onair/wire.remainders"], apart := false, laid := [("onair/wire.remainders", laid_onair_wire_remainders)] }
def PlayoutPastSaid : Prop := playoutPastRow.holds Tryd.pinned (OpenSpec.ofChange playoutPastSpec)

/-- ITS FALSE NEIGHBOUR: 'it returns false'. Refute it at one input. -/
def playoutPastWrong : ChangeSpec := { name := "playoutPast", fn := fun _ => fun
  | [d1, d2, d3, d4, d5, d6] => { results := [.lit (.bool false)], args := [d1, d2, d3, d4, d5, d6] }
  | _ => none }
def PlayoutPastWrongFalsely : Prop := playoutPastRow.holds Tryd.pinned (OpenSpec.ofChange playoutPastWrong)

/- THE SECOND FORM. 'bulk': how many values and letters a reading holds, each counted each time it is reached (what is shared counts as often as it is met; a slice's spare places count too). A statement '..UptoSaid' is the law's where the arguments, and the package variables that the reading takes, are together of bulk at most 1048576: NARROWER than '..Said'. Prove '..Said' where nothing that the law and all that it calls make is longer than what came in: it says more and counts as full. Else prove '..UptoSaid'. A law counts once. -/
mutual
def uptoBulk {H : Type} : DataW H → Nat
  | .lit (.string bytes) => bytes.length + 1
  | .lit _ => 1
  | .nil => 1
  | .ptr d => uptoBulk d + 1
  | .slice elems spare => uptoBulkAll elems + uptoBulkAll spare + 1
  | .agg parts => uptoBulkAll parts + 1
  | .iface _ d => uptoBulk d + 1
  | .map entries => uptoBulkEntries entries + 1
  | .held _ => 1
def uptoBulkAll {H : Type} : List (DataW H) → Nat
  | [] => 0
  | d :: r => uptoBulk d + uptoBulkAll r
def uptoBulkEntries {H : Type} : List (Lit × DataW H) → Nat
  | [] => 0
  | x :: r => uptoBulkEntry x + uptoBulkEntries r
def uptoBulkEntry {H : Type} : Lit × DataW H → Nat
  | (.string bytes, d) => bytes.length + uptoBulk d + 1
  | (_, d) => uptoBulk d + 1
 end
def uptoSmall : (H : Type) → List (DataW H) → Bool := fun _ ds => decide (uptoBulkAll ds ≤ 1048576)
def OpenSpec.upto (s : _root_.Go.ChangeSpec) : _root_.Go.OpenSpec := { _root_.Go.OpenSpec.ofChange s with cond := some uptoSmall }

/-- 'onairlaw19.PlayoutGenuineMatchesReference', WHERE WHAT IT READS IS OF BULK AT MOST 1048576: true; the input reads as it did. -/
def playoutGenuineMatchesReferenceUptoRow : OpenClaim := { program := "ytedgjnpaebllpaadoor", sum := "ba9452cc4e840438cdfef4daa36a3091177e64adbbf91d87cdbb3b3d21ebb728", func := "onair/onairlaw19.PlayoutGenuineMatchesReference", spec := "playoutGenuineMatchesReference", inPlace := ["internal/abi.NoEscape", "internal/bytealg.MakeNoZero"], unfollowed := true, recurses := true, named := ["onair/wire.remainders"], apart := false, laid := [("onair/wire.remainders", laid_onair_wire_remainders)], narrowed := true }
def PlayoutGenuineMatchesReferenceUptoSaid : Prop := playoutGenuineMatchesReferenceUptoRow.holds Tryd.pinned (OpenSpec.upto playoutGenuineMatchesReferenceSpec)

/-- 'onairlaw19.PlayoutGenuine', WHERE WHAT IT READS IS OF BULK AT MOST 1048576: true; the input reads as it did. -/
def playoutGenuineUptoRow : OpenClaim := { program := "ytedgjnpaebllpaadoor", sum := "ba9452cc4e840438cdfef4daa36a3091177e64adbbf91d87cdbb3b3d21ebb728", func := "onair/onairlaw19.PlayoutGenuine", spec := "playoutGenuine", inPlace := ["internal/abi.NoEscape", "internal/bytealg.MakeNoZero"], unfollowed := true, recurses := true, named := ["onair/wire.remainders"], apart := false, laid := [("onair/wire.remainders", laid_onair_wire_remainders)], narrowed := true }
def PlayoutGenuineUptoSaid : Prop := playoutGenuineUptoRow.holds Tryd.pinned (OpenSpec.upto playoutGenuineSpec)

/-- 'onairlaw19.PlayoutConsecutive', WHERE WHAT IT READS IS OF BULK AT MOST 1048576: true; the input reads as it did. -/
def playoutConsecutiveUptoRow : OpenClaim := { program := "ytedgjnpaebllpaadoor", sum := "ba9452cc4e840438cdfef4daa36a3091177e64adbbf91d87cdbb3b3d21ebb728", func := "onair/onairlaw19.PlayoutConsecutive", spec := "playoutConsecutive", inPlace := ["internal/abi.NoEscape", "internal/bytealg.MakeNoZero"], unfollowed := true, recurses := true, named := ["onair/wire.remainders"], apart := false, laid := [("onair/wire.remainders", laid_onair_wire_remainders)], narrowed := true }
def PlayoutConsecutiveUptoSaid : Prop := playoutConsecutiveUptoRow.holds Tryd.pinned (OpenSpec.upto playoutConsecutiveSpec)

/-- 'onairlaw19.PlayoutSmooth', WHERE WHAT IT READS IS OF BULK AT MOST 1048576: true; the input reads as it did. -/
def playoutSmoothUptoRow : OpenClaim := { program := "ytedgjnpaebllpaadoor", sum := "ba9452cc4e840438cdfef4daa36a3091177e64adbbf91d87cdbb3b3d21ebb728", func := "onair/onairlaw19.PlayoutSmooth", spec := "playoutSmooth", inPlace := ["internal/abi.NoEscape", "internal/bytealg.MakeNoZero"], unfollowed := true, recurses := true, named := ["onair/wire.remainders"], apart := false, laid := [("onair/wire.remainders", laid_onair_wire_remainders)], narrowed := true }
def PlayoutSmoothUptoSaid : Prop := playoutSmoothUptoRow.holds Tryd.pinned (OpenSpec.upto playoutSmoothSpec)

/-- 'onairlaw19.PlayoutPast', WHERE WHAT IT READS IS OF BULK AT MOST 1048576: true; the input reads as it did. -/
def playoutPastUptoRow : OpenClaim := { program := "ytedgjnpaebllpaadoor", sum := "ba9452cc4e840438cdfef4daa36a3091177e64adbbf91d87cdbb3b3d21ebb728", func := "onair/onairlaw19.PlayoutPast", spec := "playoutPast", inPlace := ["internal/abi.NoEscape", "internal/bytealg.MakeNoZero"], unfollowed := true, recurses := true, named := ["onair/wire.remainders"], apart := false, laid := [("onair/wire.remainders", laid_onair_wire_remainders)], narrowed := true }
def PlayoutPastUptoSaid : Prop := playoutPastUptoRow.holds Tryd.pinned (OpenSpec.upto playoutPastSpec)

end Rows
end Go.Proofs.YtedgjnpaebllpaaDoor
