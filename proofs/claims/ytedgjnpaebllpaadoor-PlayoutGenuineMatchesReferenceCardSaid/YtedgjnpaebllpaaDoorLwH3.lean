/-
  PlayoutGenuineMatchesReference returns true for every library and every unit, and leaves its arguments as they were.
  Conditions: none beyond the given card's own (the listed variable as the program's text lays it).
-/
import Derived.Test.YtedgjnpaebllpaaDoorLwC
import Derived.Test.YtedgjnpaebllpaaDoorLwG
import Derived.Test.YtedgjnpaebllpaaDoorCards
import Derived.Test.YtedgjnpaebllpaaDoorTie
import Derived.WalkKit
import Derived.ProofKit
import Derived.OpenShut
import Derived.Deep.DeepHandedRow
import Derived.Lib.LaidTab
import Derived.SevenTiedAt
namespace Go.Proofs.YtedgjnpaebllpaaDoor.law3
open Go Go.Abs Go.ChangeShapes Go.WideShapes Go.ChangeAt Go.RowKit

theorem own : ownKnob Tryd.prog.godebug = none := by kernel_rfl

set_option maxRecDepth 100000 in
theorem pure3 {H : Type} (ds : List (DataW H)) (h : TypedAll Tryd.prog 20 Tryd.f3.params.toList ds) : Pure Tryd.prog gl0 3 (argsOf Tryd.prog 20 Tryd.f3.params.toList ds) (.bool true) := by
  have hpar : Tryd.f3.params.toList = [22, 27] := by rw [Tryd.params3]
  rw [hpar] at h ⊢
  match ds, h with
  | [x, y], ⟨h1, h2, _⟩ =>
    obtain ⟨xs, a1, a2, a3⟩ := arg_ints (n := 18) h1
    obtain ⟨u, b1, b2, b3, b4, b5⟩ := arg_unit (n := 15) h2
    refine pure_weak (law3 xs u a1 a2 b1 b2 b3 b4) ⟨a3, ?_, trivial⟩
    rw [b5]
    exact Wk.refl _

set_option maxRecDepth 100000 in
theorem contract (H : Type) (enc : TypeId × Value → H) (W : World) (base : Nat) (args : Array Value) (ds gs : List (DataW H)) (before : List MemPlace)
    (hval : ∀ (j : Nat) t v, Tryd.f3.params[j]? = some t → args[j]? = some v → Value.okWide Tryd.prog W .any base t v)
    (hW : DataW.Whole enc Tryd.prog Tryd.f3.params.toList Rows.playoutGenuineMatchesReferenceSpec.vars false W args.toList ds gs before) :
    Calls Tryd.prog 3 args W fun e W' => ∃ v, e = .returned v ∧ Rows.playoutGenuineMatchesReferenceSpec.post enc Tryd.prog Tryd.f3 false true false false W args v W' :=
  law_contract (gl := gl0) (d := 20) (bt := 4) rfl (by kernel_rfl) Tryd.underlying4 (by kernel_rfl) (by kernel_rfl) (fun ds hl => by
      have h2 : ds.length = 2 := by rw [hl, Tryd.params3]; rfl
      match ds, h2 with
      | [x, y], _ => exact ⟨rfl, rfl, rfl⟩)
    (fun g => .junk _) hval hW (pure3 ds)

/-- A WORLD FOR THE WITNESS: the settled one, the table holding what its initialiser lays. -/
noncomputable def laidWorld (os : Os) : World :=
  { World.holding Tryd.prog os ⟨#[], #[], []⟩ with heap := (World.holding Tryd.prog os ⟨#[], #[], []⟩).heap.modify 0 fun
      | .cells _ t frozen => .cells #[.int .u32 0, .int .u32 274646895, .int .u32 549293790, .int .u32 820201905, .int .u32 1098587580, .int .u32 1361435347, .int .u32 1640403810, .int .u32 1905808397, .int .u32 2197175160, .int .u32 2460548119, .int .u32 2722870694, .int .u32 2987750089, .int .u32 3280807620, .int .u32 3553878443, .int .u32 3811616794, .int .u32 4084100981] t frozen
      | o => o }
def wit : Array Value := #[.slice none 0 0, .agg #[.int .i64 0, .int .i64 0, .int .i64 0, .int .i64 0, .int .i64 0, .bool false, .string ⟨#[]⟩, .int .i64 0, .int .i64 0, .string ⟨#[]⟩, .int .i64 0, .int .i64 0, .slice none 0 0]]
theorem laid_met (os : Os) : laidMet Tryd.prog Rows.playoutGenuineMatchesReferenceRow.laid ((laidWorld os).forCall (fun _ _ => 0) ⟨#[], wit, []⟩).memory :=
  laidMet_of_run' 8 (by kernel_rfl) (by kernel_rfl)
theorem reads (os : Os) {H : Type} (enc : TypeId × Value → H) : ∃ places, DataW.whole enc Tryd.prog ((laidWorld os).forCall (fun _ _ => 0) ⟨#[], wit, []⟩).memory Tryd.f3.params.toList Rows.playoutGenuineMatchesReferenceSpec.vars false wit.toList 8 = some ([.nil, .agg [.lit (.int .i64 0), .lit (.int .i64 0), .lit (.int .i64 0), .lit (.int .i64 0), .lit (.int .i64 0), .lit (.bool false), .lit (.string []), .lit (.int .i64 0), .lit (.int .i64 0), .lit (.string []), .agg [.lit (.int .i64 0), .lit (.int .i64 0), .nil]]], [], places) :=
  ⟨[], by kernel_rfl⟩

set_option maxRecDepth 100000 in
theorem lifted (os : Os) (started : os.Started) (H : Type) (enc : TypeId × Value → H) (F : Stop.Interp) :
    ReturnsInHanded {} Tryd.checked os 3 .any ((OpenSpec.ofChange Rows.playoutGenuineMatchesReferenceSpec).preRow enc Tryd.prog Tryd.f3 Rows.playoutGenuineMatchesReferenceRow.domain false Rows.playoutGenuineMatchesReferenceRow.laid) (((OpenSpec.ofChange Rows.playoutGenuineMatchesReferenceSpec).at F).post enc Tryd.prog Tryd.f3 false true false false) := by
  obtain ⟨places, hx⟩ := reads os enc
  refine returnsInHanded_of_row (C := Tryd.checked) (s := OpenSpec.ofChange Rows.playoutGenuineMatchesReferenceSpec) own started (by kernel_rfl) Tryd.func3
    (witness_row_at (enc := enc) (C := Tryd.checked) false (laidWorld os) wit rfl (by kernel_rfl) (by kernel_rfl) (by kernel_rfl)
      (OpenSpec.preRow_of_cond 8 hx (by kernel_rfl) (fun k hk => by cases hk) (by kernel_rfl) (laid_met os))) ?_
  intro W base args ds gs before hval hW _ _ _ hL _ _
  exact contract H enc W base args ds gs before hval hW

theorem said : Rows.PlayoutGenuineMatchesReferenceSaid :=
  OpenClaim.holds_of_cond 3 Tryd.f3 rfl rfl rfl rfl rfl rfl rfl ⟨rfl, rfl, rfl, rfl, rfl⟩ rfl rfl rfl rfl rfl (by kernel_rfl) Tryd.func3 (by kernel_rfl)
    (of_decide_eq_true (by kernel_rfl)) (by unfold Func.isWrapper; first | (rw [if_pos (by decide +kernel)]; kernel_rfl) | (rw [if_neg (by decide +kernel)]; exact ⟨rfl, rfl⟩))
    (fun os started H enc _ F => by rw [OpenClaim.pre_eq_preRow]; exact lifted os started H enc F)

theorem plain (f : FuncId) (fn : Func) (hf : Tryd.pinned.checked.prog.funcNamed "onair/onairlaw19.PlayoutGenuineMatchesReference" = some f) (hfn : Tryd.pinned.checked.prog.funcs[f]? = some fn) :
    false = Tryd.pinned.checked.prog.looks [] ∧ ∀ (j : Nat) t, fn.params[j]? = some t → Tryd.pinned.checked.prog.wantsStandIn t = false := by
  obtain rfl : f = 3 := Option.some.inj ((show Tryd.prog.funcNamed "onair/onairlaw19.PlayoutGenuineMatchesReference" = some 3 by kernel_rfl).symm.trans hf) |>.symm
  obtain rfl : fn = Tryd.f3 := (Option.some.inj (Tryd.func3.symm.trans hfn)).symm
  refine ⟨by kernel_rfl, fun j t ht => ?_⟩
  rw [Tryd.params3] at ht
  have hm := Array.mem_of_getElem? ht
  simp only [List.mem_toArray, List.mem_cons, List.not_mem_nil, or_false] at hm
  rcases hm with rfl | rfl
  · exact (show Tryd.prog.wantsStandIn 22 = false by kernel_rfl)
  · exact (show Tryd.prog.wantsStandIn 27 = false by kernel_rfl)

end Go.Proofs.YtedgjnpaebllpaaDoor.law3
namespace Go.Proofs.YtedgjnpaebllpaaDoor
open Go

/-- THE CARD. -/
theorem playoutGenuineMatchesReference_card : Rows.PlayoutGenuineMatchesReferenceCardSaid :=
  Claim7.holds_tied_plain_at .later [] _ _ _ _ law3.said (fun _ h => by cases h) (by kernel_rfl) (fun _ h => by cases h) playoutGenuineMatchesReference_row_tie rfl ⟨rfl, rfl⟩ (by kernel_rfl) rfl law3.plain (by kernel_rfl)
#print axioms playoutGenuineMatchesReference_card
end Go.Proofs.YtedgjnpaebllpaaDoor
