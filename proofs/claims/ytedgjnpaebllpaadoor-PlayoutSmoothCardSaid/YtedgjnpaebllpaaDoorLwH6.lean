/-
  PlayoutSmooth returns true for every list of integers that determines a program, every library and every frame, and leaves its arguments as they were.
  Conditions: none beyond the given card's own (the listed variable as the program's text lays it).
-/
import Derived.Test.YtedgjnpaebllpaaDoorLwN
import Derived.Test.YtedgjnpaebllpaaDoorCards
import Derived.Test.YtedgjnpaebllpaaDoorTie
import Derived.WalkKit
import Derived.ProofKit
import Derived.OpenShut
import Derived.Deep.DeepHandedRow
import Derived.Lib.LaidTab
import Derived.SevenTiedAt
namespace Go.Proofs.YtedgjnpaebllpaaDoor.law6
open Go Go.Abs Go.ChangeShapes Go.WideShapes Go.ChangeAt Go.RowKit

theorem own : ownKnob Tryd.prog.godebug = none := by kernel_rfl

set_option maxRecDepth 100000 in
theorem pure6 {H : Type} (ds : List (DataW H)) (h : TypedAll Tryd.prog 20 Tryd.f6.params.toList ds) : Pure Tryd.prog gl0 6 (argsOf Tryd.prog 20 Tryd.f6.params.toList ds) (.bool true) := by
  have hpar : Tryd.f6.params.toList = [42, 43, 22, 3] := by rw [Tryd.params6]
  rw [hpar] at h ⊢
  match ds, h with
  | [x, y, z, k], ⟨h1, h2, h3, h4, _⟩ =>
    obtain ⟨X, a1, a2, a3⟩ := arg_q4s (n := 17) h1
    obtain ⟨q, b1, b2⟩ := arg_q4 (n := 18) h2
    obtain ⟨xs, c1, c2, c3⟩ := arg_ints (n := 18) h3
    obtain ⟨m, d1, d2⟩ := arg_int (n := 19) h4
    refine pure_weak (law6 X q xs m a1 a2 b1 c1 c2 d1) ⟨a3, ?_, c3, ?_, trivial⟩
    · rw [b2]; exact Wk.refl _
    · rw [d2]; exact Wk.refl _

set_option maxRecDepth 100000 in
theorem contract (H : Type) (enc : TypeId × Value → H) (W : World) (base : Nat) (args : Array Value) (ds gs : List (DataW H)) (before : List MemPlace)
    (hval : ∀ (j : Nat) t v, Tryd.f6.params[j]? = some t → args[j]? = some v → Value.okWide Tryd.prog W .any base t v)
    (hW : DataW.Whole enc Tryd.prog Tryd.f6.params.toList Rows.playoutSmoothSpec.vars false W args.toList ds gs before) :
    Calls Tryd.prog 6 args W fun e W' => ∃ v, e = .returned v ∧ Rows.playoutSmoothSpec.post enc Tryd.prog Tryd.f6 false true false false W args v W' :=
  law_contract (gl := gl0) (d := 20) (bt := 4) rfl (by kernel_rfl) Tryd.underlying4 (by kernel_rfl) (by kernel_rfl) (fun ds hl => by
      have h2 : ds.length = 4 := by rw [hl, Tryd.params6]; rfl
      match ds, h2 with
      | [x, y, z, k], _ => exact ⟨rfl, rfl, rfl⟩)
    (fun g => .junk _) hval hW (pure6 ds)

/-- A WORLD FOR THE WITNESS: the settled one, the table holding what its initialiser lays. -/
noncomputable def laidWorld (os : Os) : World :=
  { World.holding Tryd.prog os ⟨#[], #[], []⟩ with heap := (World.holding Tryd.prog os ⟨#[], #[], []⟩).heap.modify 0 fun
      | .cells _ t frozen => .cells #[.int .u32 0, .int .u32 274646895, .int .u32 549293790, .int .u32 820201905, .int .u32 1098587580, .int .u32 1361435347, .int .u32 1640403810, .int .u32 1905808397, .int .u32 2197175160, .int .u32 2460548119, .int .u32 2722870694, .int .u32 2987750089, .int .u32 3280807620, .int .u32 3553878443, .int .u32 3811616794, .int .u32 4084100981] t frozen
      | o => o }
def wit : Array Value := #[.slice none 0 0, .agg #[.int .i64 0, .int .i64 0, .int .i64 0, .int .i64 0], .slice none 0 0, .int .i64 0]
theorem laid_met (os : Os) : laidMet Tryd.prog Rows.playoutSmoothRow.laid ((laidWorld os).forCall (fun _ _ => 0) ⟨#[], wit, []⟩).memory :=
  laidMet_of_run' 8 (by kernel_rfl) (by kernel_rfl)
theorem reads (os : Os) {H : Type} (enc : TypeId × Value → H) : ∃ places, DataW.whole enc Tryd.prog ((laidWorld os).forCall (fun _ _ => 0) ⟨#[], wit, []⟩).memory Tryd.f6.params.toList Rows.playoutSmoothSpec.vars false wit.toList 8 = some ([.nil, .agg [.lit (.int .i64 0), .lit (.int .i64 0), .lit (.int .i64 0), .lit (.int .i64 0)], .nil, .lit (.int .i64 0)], [], places) :=
  ⟨[], by kernel_rfl⟩

set_option maxRecDepth 100000 in
theorem lifted (os : Os) (started : os.Started) (H : Type) (enc : TypeId × Value → H) (F : Stop.Interp) :
    ReturnsInHanded {} Tryd.checked os 6 .any ((OpenSpec.ofChange Rows.playoutSmoothSpec).preRow enc Tryd.prog Tryd.f6 Rows.playoutSmoothRow.domain false Rows.playoutSmoothRow.laid) (((OpenSpec.ofChange Rows.playoutSmoothSpec).at F).post enc Tryd.prog Tryd.f6 false true false false) := by
  obtain ⟨places, hx⟩ := reads os enc
  refine returnsInHanded_of_row (C := Tryd.checked) (s := OpenSpec.ofChange Rows.playoutSmoothSpec) own started (by kernel_rfl) Tryd.func6
    (witness_row_at (enc := enc) (C := Tryd.checked) false (laidWorld os) wit rfl (by kernel_rfl) (by kernel_rfl) (by kernel_rfl)
      (OpenSpec.preRow_of_cond 8 hx (by kernel_rfl) (fun k hk => by cases hk) (by kernel_rfl) (laid_met os))) ?_
  intro W base args ds gs before hval hW _ _ _ hL _ _
  exact contract H enc W base args ds gs before hval hW

theorem said : Rows.PlayoutSmoothSaid :=
  OpenClaim.holds_of_cond 6 Tryd.f6 rfl rfl rfl rfl rfl rfl rfl ⟨rfl, rfl, rfl, rfl, rfl⟩ rfl rfl rfl rfl rfl (by kernel_rfl) Tryd.func6 (by kernel_rfl)
    (of_decide_eq_true (by kernel_rfl)) (by unfold Func.isWrapper; first | (rw [if_pos (by decide +kernel)]; kernel_rfl) | (rw [if_neg (by decide +kernel)]; exact ⟨rfl, rfl⟩))
    (fun os started H enc _ F => by rw [OpenClaim.pre_eq_preRow]; exact lifted os started H enc F)

theorem plain (f : FuncId) (fn : Func) (hf : Tryd.pinned.checked.prog.funcNamed "onair/onairlaw19.PlayoutSmooth" = some f) (hfn : Tryd.pinned.checked.prog.funcs[f]? = some fn) :
    false = Tryd.pinned.checked.prog.looks [] ∧ ∀ (j : Nat) t, fn.params[j]? = some t → Tryd.pinned.checked.prog.wantsStandIn t = false := by
  obtain rfl : f = 6 := Option.some.inj ((show Tryd.prog.funcNamed "onair/onairlaw19.PlayoutSmooth" = some 6 by kernel_rfl).symm.trans hf) |>.symm
  obtain rfl : fn = Tryd.f6 := (Option.some.inj (Tryd.func6.symm.trans hfn)).symm
  refine ⟨by kernel_rfl, fun j t ht => ?_⟩
  rw [Tryd.params6] at ht
  have hm := Array.mem_of_getElem? ht
  simp only [List.mem_toArray, List.mem_cons, List.not_mem_nil, or_false] at hm
  rcases hm with rfl | rfl | rfl | rfl
  · exact (show Tryd.prog.wantsStandIn 42 = false by kernel_rfl)
  · exact (show Tryd.prog.wantsStandIn 43 = false by kernel_rfl)
  · exact (show Tryd.prog.wantsStandIn 22 = false by kernel_rfl)
  · exact (show Tryd.prog.wantsStandIn 3 = false by kernel_rfl)

end Go.Proofs.YtedgjnpaebllpaaDoor.law6
namespace Go.Proofs.YtedgjnpaebllpaaDoor
open Go

/-- THE CARD. -/
theorem playoutSmooth_card : Rows.PlayoutSmoothCardSaid :=
  Claim7.holds_tied_plain_at .later [] _ _ _ _ law6.said (fun _ h => by cases h) (by kernel_rfl) (fun _ h => by cases h) playoutSmooth_row_tie rfl ⟨rfl, rfl⟩ (by kernel_rfl) rfl law6.plain (by kernel_rfl)
#print axioms playoutSmooth_card
end Go.Proofs.YtedgjnpaebllpaaDoor
