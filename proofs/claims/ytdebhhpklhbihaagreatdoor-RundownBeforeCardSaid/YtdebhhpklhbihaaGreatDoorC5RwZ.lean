/-
  RundownBefore returns true for every list of integers that determines a rundown, every frame and every other frame, and leaves its arguments as they were.
  Conditions: none beyond the given card's own (the listed variable as the program's text lays it).
-/
import Derived.Test.YtdebhhpklhbihaaGreatDoorC5RwK
import Derived.Test.YtdebhhpklhbihaaGreatDoorC5RwG
import Derived.Test.YtdebhhpklhbihaaGreatDoorCards
import Derived.Test.YtdebhhpklhbihaaGreatDoorTie
import Derived.WalkKit
import Derived.ProofKit
import Derived.OpenShut
import Derived.Deep.DeepHandedRow
import Derived.Lib.LaidTab
import Derived.SevenTiedAt
import Derived.MakeChecks
namespace Go.Proofs.YtdebhhpklhbihaaGreatDoor.law5
open Go Go.Abs Go.ChangeShapes Go.WideShapes Go.ChangeAt Go.RowKit

theorem own : ownKnob Tryz.prog.godebug = none := by kernel_rfl

set_option maxRecDepth 100000 in
theorem pure5 {H : Type} (ds : List (DataW H)) (h : TypedAll Tryz.prog 20 Tryz.f5.params.toList ds) : Pure Tryz.prog gl0 5 (argsOf Tryz.prog 20 Tryz.f5.params.toList ds) (.bool true) := by
  have hpar : Tryz.f5.params.toList = [53, 3, 3] := by rw [Tryz.params5]
  rw [hpar] at h ⊢
  match ds, h with
  | [x, y, z], ⟨h1, h2, h3, _⟩ =>
    obtain ⟨X, a1, a2, a3⟩ := arg_q5s (n := 17) h1
    obtain ⟨m, d1, d2⟩ := arg_int (n := 19) h2
    obtain ⟨m', e1, e2⟩ := arg_int (n := 19) h3
    refine pure_weak (law5 X m m' a1 a2 d1 e1) ⟨a3, ?_, ?_, trivial⟩
    · rw [d2]; exact Wk.refl _
    · rw [e2]; exact Wk.refl _

set_option maxRecDepth 100000 in
theorem contract (H : Type) (enc : TypeId × Value → H) (W : World) (base : Nat) (args : Array Value) (ds gs : List (DataW H)) (before : List MemPlace)
    (hgl : ∀ g, Rep W (G0 top) (gl0 g) (.pointer (some ⟨g, 0, none⟩))) (hval : ∀ (j : Nat) t v, Tryz.f5.params[j]? = some t → args[j]? = some v → Value.okWide Tryz.prog W .any base t v)
    (hW : DataW.Whole enc Tryz.prog Tryz.f5.params.toList Rows.rundownBeforeSpec.vars false W args.toList ds gs before) :
    Calls Tryz.prog 5 args W fun e W' => ∃ v, e = .returned v ∧ Rows.rundownBeforeSpec.post enc Tryz.prog Tryz.f5 false true false false W args v W' :=
  law_contract (gl := gl0) (d := 20) (bt := 4) rfl (by kernel_rfl) Tryz.underlying4 (by kernel_rfl) (by kernel_rfl) (fun ds hl => by
      have h2 : ds.length = 3 := by rw [hl, Tryz.params5]; rfl
      match ds, h2 with
      | [a, b, c], _ => exact ⟨rfl, rfl, rfl⟩)
    hgl hval hW (pure5 ds)

/-- A WORLD FOR THE WITNESS: the settled one, the table holding what its initialiser lays. -/
noncomputable def laidWorld (os : Os) : World :=
  { World.holding Tryz.prog os ⟨#[], #[], []⟩ with heap := (World.holding Tryz.prog os ⟨#[], #[], []⟩).heap.modify 0 fun
      | .cells _ t frozen => .cells #[.int .i64 24000, .int .i64 1001, .int .i64 24, .int .i64 0, .int .i64 24, .int .i64 1, .int .i64 24, .int .i64 0, .int .i64 25, .int .i64 1, .int .i64 25, .int .i64 0, .int .i64 30000, .int .i64 1001, .int .i64 30, .int .i64 2, .int .i64 30, .int .i64 1, .int .i64 30, .int .i64 0, .int .i64 50, .int .i64 1, .int .i64 50, .int .i64 0, .int .i64 60000, .int .i64 1001, .int .i64 60, .int .i64 4, .int .i64 60, .int .i64 1, .int .i64 60, .int .i64 0] t frozen
      | o => o }
def wit : Array Value := #[.slice none 0 0, .int .i64 0, .int .i64 0]
theorem laid_met (os : Os) : laidMet Tryz.prog Rows.rundownBeforeRow.laid ((laidWorld os).forCall (fun _ _ => 0) ⟨#[], wit, []⟩).memory :=
  laidMet_of_run' 8 (by kernel_rfl) (by kernel_rfl)
theorem reads (os : Os) {H : Type} (enc : TypeId × Value → H) : ∃ places, DataW.whole enc Tryz.prog ((laidWorld os).forCall (fun _ _ => 0) ⟨#[], wit, []⟩).memory Tryz.f5.params.toList Rows.rundownBeforeSpec.vars false wit.toList 8 = some ([.nil, .lit (.int .i64 0), .lit (.int .i64 0)], [], places) :=
  ⟨[], by kernel_rfl⟩

set_option maxRecDepth 100000 in
theorem lifted (os : Os) (started : os.Started) (H : Type) (enc : TypeId × Value → H) (F : Stop.Interp) :
    ReturnsInHanded {} Tryz.checked os 5 .any ((OpenSpec.ofChange Rows.rundownBeforeSpec).preRow enc Tryz.prog Tryz.f5 Rows.rundownBeforeRow.domain false Rows.rundownBeforeRow.laid) (((OpenSpec.ofChange Rows.rundownBeforeSpec).at F).post enc Tryz.prog Tryz.f5 false true false false) := by
  obtain ⟨places, hx⟩ := reads os enc
  refine returnsInHanded_of_row (C := Tryz.checked) (s := OpenSpec.ofChange Rows.rundownBeforeSpec) own started (by kernel_rfl) Tryz.func5
    (witness_row_at (enc := enc) (C := Tryz.checked) false (laidWorld os) wit rfl (by kernel_rfl) (by kernel_rfl) (by kernel_rfl)
      (OpenSpec.preRow_of_cond 8 hx (by kernel_rfl) (fun k hk => by cases hk) (by kernel_rfl) (laid_met os))) ?_
  intro W base args ds gs before hval hW _ _ _ hL _ _
  rw [MakeChecks.laidMetH_plain _ _ _ (by kernel_rfl)] at hL
  exact contract H enc W base args ds gs before (gl_rep hL) hval hW

theorem said : Rows.RundownBeforeSaid :=
  OpenClaim.holds_of_cond 5 Tryz.f5 rfl rfl rfl rfl rfl rfl rfl ⟨rfl, rfl, rfl, rfl, rfl⟩ rfl rfl rfl rfl rfl (by kernel_rfl) Tryz.func5 (by kernel_rfl)
    (of_decide_eq_true (by kernel_rfl)) (by unfold Func.isWrapper; first | (rw [if_pos (by decide +kernel)]; kernel_rfl) | (rw [if_neg (by decide +kernel)]; exact ⟨rfl, rfl⟩))
    (fun os started H enc _ F => by rw [OpenClaim.pre_eq_preRow]; exact lifted os started H enc F)

theorem plain (f : FuncId) (fn : Func) (hf : Tryz.pinned.checked.prog.funcNamed "onair/onairlaw10.RundownBefore" = some f) (hfn : Tryz.pinned.checked.prog.funcs[f]? = some fn) :
    true = Tryz.pinned.checked.prog.looks [] ∧ ∀ (j : Nat) t, fn.params[j]? = some t → Tryz.pinned.checked.prog.wantsStandIn t = false := by
  obtain rfl : f = 5 := Option.some.inj ((show Tryz.prog.funcNamed "onair/onairlaw10.RundownBefore" = some 5 by kernel_rfl).symm.trans hf) |>.symm
  obtain rfl : fn = Tryz.f5 := (Option.some.inj (Tryz.func5.symm.trans hfn)).symm
  refine ⟨by kernel_rfl, fun j t ht => ?_⟩
  rw [Tryz.params5] at ht
  have hm := Array.mem_of_getElem? ht
  simp only [List.mem_toArray, List.mem_cons, List.not_mem_nil, or_false] at hm
  rcases hm with rfl | rfl | rfl
  · exact (show Tryz.prog.wantsStandIn 53 = false by kernel_rfl)
  · exact (show Tryz.prog.wantsStandIn 3 = false by kernel_rfl)
  · exact (show Tryz.prog.wantsStandIn 3 = false by kernel_rfl)
end Go.Proofs.YtdebhhpklhbihaaGreatDoor.law5
namespace Go.Proofs.YtdebhhpklhbihaaGreatDoor
open Go

/-- THE CARD. -/
theorem rundownBefore_card : Rows.RundownBeforeCardSaid :=
  Claim7.holds_tied_plain_at .later [] _ _ _ _ law5.said (fun _ h => by cases h) (by kernel_rfl) (fun _ h => by cases h) rundownBefore_row_tie rfl ⟨rfl, rfl⟩ (by kernel_rfl) rfl law5.plain (by kernel_rfl)
#print axioms rundownBefore_card
end Go.Proofs.YtdebhhpklhbihaaGreatDoor
