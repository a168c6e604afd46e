/-
  PlayoutMatchesReference returns true for every list of integers that determines a program, every library and every frame, and leaves its arguments as they were.
  Conditions: none beyond the given card's own (the listed variable as the program's text lays it).
-/
import Derived.Test.YtedgjnpaebllpaaGreatDoorLwN
import Derived.Test.YtedgjnpaebllpaaGreatDoorLzI
import Derived.Test.YtedgjnpaebllpaaGreatDoorCards
import Derived.Test.YtedgjnpaebllpaaGreatDoorTie
import Derived.WalkKit
import Derived.ProofKit
import Derived.OpenShut
import Derived.Deep.DeepHandedRow
import Derived.Lib.LaidTab
import Derived.SevenTiedAt
import Derived.MakeChecks
set_option linter.unusedVariables false
set_option linter.unusedSimpArgs false
namespace Go.Proofs.YtedgjnpaebllpaaGreatDoor.law3
open Go Go.Abs Go.ChangeShapes Go.WideShapes Go.ChangeAt Go.RowKit

theorem own : ownKnob Tryz.prog.godebug = none := by kernel_rfl

set_option maxRecDepth 100000 in
theorem pure3 {H : Type} (ds : List (DataW H)) (h : TypedAll Tryz.prog 20 Tryz.f3.params.toList ds) : Pure Tryz.prog gl0 3 (argsOf Tryz.prog 20 Tryz.f3.params.toList ds) (.bool true) := by
  have hpar : Tryz.f3.params.toList = [22, 23, 24, 3] := by rw [Tryz.params3]
  rw [hpar] at h ⊢
  match ds, h with
  | [x, y, z, k], ⟨h1, h2, h3, h4, _⟩ =>
    obtain ⟨X, a1, a2, a3⟩ := arg_q4s (n := 17) h1
    obtain ⟨q, b1, b2⟩ := arg_q4 (n := 18) h2
    obtain ⟨xs, c1, c2, c3⟩ := arg_ints (n := 18) h3
    obtain ⟨m, d1, d2⟩ := arg_int (n := 19) h4
    refine pure_weak (law3 X q xs m a1 a2 b1 c1 c2 d1) ⟨a3, ?_, c3, ?_, trivial⟩
    · rw [b2]; exact Wk.refl _
    · rw [d2]; exact Wk.refl _

def zs : List Int := [0, 274646895, 549293790, 820201905, 1098587580, 1361435347, 1640403810, 1905808397, 2197175160, 2460548119, 2722870694, 2987750089, 3280807620, 3553878443, 3811616794, 4084100981]
theorem gl_rep {W : World} (h : laidMetH Tryz.prog Rows.playoutMatchesReferenceRow.laid W) : ∀ g, Rep W (G0 top) (gl0 g) (.pointer (some ⟨g, 0, none⟩)) := by
  rw [MakeChecks.laidMetH_plain _ _ _ (by kernel_rfl)] at h
  have ht : Lib.TabIs Tryz.prog W "onair/wire.remainders" .u32 zs := Lib.tabIs_of_head (g := 0) (t := 168) (e := 166) (n := 16) (by kernel_rfl) (by kernel_rfl) (by kernel_rfl) (by kernel_rfl) (by kernel_rfl) (by kernel_rfl) h
  intro g
  match g with
  | 0 =>
    have hsz : 0 < W.heap.size := by
      have := ht.cell (g := 0) (by kernel_rfl) 0 (by decide)
      simp only [World.cell?] at this
      rcases Nat.lt_or_ge 0 W.heap.size with h | h
      · exact h
      · rw [Array.getElem?_eq_none (by omega)] at this; simp at this
    have hlen : ∀ (j : Nat) (c : AV), tbl[j]? = some c → j < 16 ∧ c = .int .u32 (zs.getD j 0) := by
      intro j c hj
      rw [show tbl = zs.map (fun z => AV.int .u32 z) from rfl, List.getElem?_map] at hj
      obtain ⟨z, h1, rfl⟩ := Option.map_eq_some_iff.1 hj
      have hlt : j < 16 := (List.getElem?_eq_some_iff.1 h1).1
      exact ⟨hlt, by simp [List.getD, h1]⟩
    refine Rep.ep (o := 0) (b := 0) (off := 0) (fun j => .int .u32 (zs.getD j 0)) hsz (fun j c hj => ?_) (fun j c hj => ?_)
    · have hl := (hlen j c hj).1
      refine ⟨?_, trivial, rfl⟩
      have := ht.cell (g := 0) (by kernel_rfl) j hl
      simpa using this
    · rw [(hlen j c hj).2]; exact .int _ _
  | g + 1 => exact .junk _

set_option maxRecDepth 100000 in
theorem contract (H : Type) (enc : TypeId × Value → H) (W : World) (base : Nat) (args : Array Value) (ds gs : List (DataW H)) (before : List MemPlace)
    (hgl : ∀ g, Rep W (G0 top) (gl0 g) (.pointer (some ⟨g, 0, none⟩))) (hval : ∀ (j : Nat) t v, Tryz.f3.params[j]? = some t → args[j]? = some v → Value.okWide Tryz.prog W .any base t v)
    (hW : DataW.Whole enc Tryz.prog Tryz.f3.params.toList Rows.playoutMatchesReferenceSpec.vars false W args.toList ds gs before) :
    Calls Tryz.prog 3 args W fun e W' => ∃ v, e = .returned v ∧ Rows.playoutMatchesReferenceSpec.post enc Tryz.prog Tryz.f3 false true false false W args v W' :=
  law_contract (gl := gl0) (d := 20) (bt := 4) rfl (by kernel_rfl) Tryz.underlying4 (by kernel_rfl) (by kernel_rfl) (fun ds hl => by
      have h2 : ds.length = 4 := by rw [hl, Tryz.params3]; rfl
      match ds, h2 with
      | [x, y, z, k], _ => exact ⟨rfl, rfl, rfl⟩)
    hgl hval hW (pure3 ds)

/-- A WORLD FOR THE WITNESS: the settled one, the table holding what its initialiser lays. -/
noncomputable def laidWorld (os : Os) : World :=
  { World.holding Tryz.prog os ⟨#[], #[], []⟩ with heap := (World.holding Tryz.prog os ⟨#[], #[], []⟩).heap.modify 0 fun
      | .cells _ t frozen => .cells #[.int .u32 0, .int .u32 274646895, .int .u32 549293790, .int .u32 820201905, .int .u32 1098587580, .int .u32 1361435347, .int .u32 1640403810, .int .u32 1905808397, .int .u32 2197175160, .int .u32 2460548119, .int .u32 2722870694, .int .u32 2987750089, .int .u32 3280807620, .int .u32 3553878443, .int .u32 3811616794, .int .u32 4084100981] t frozen
      | o => o }
def wit : Array Value := #[.slice none 0 0, .agg #[.int .i64 0, .int .i64 0, .int .i64 0, .int .i64 0], .slice none 0 0, .int .i64 0]
theorem laid_met (os : Os) : laidMet Tryz.prog Rows.playoutMatchesReferenceRow.laid ((laidWorld os).forCall (fun _ _ => 0) ⟨#[], wit, []⟩).memory :=
  laidMet_of_run' 8 (by kernel_rfl) (by kernel_rfl)
theorem reads (os : Os) {H : Type} (enc : TypeId × Value → H) : ∃ places, DataW.whole enc Tryz.prog ((laidWorld os).forCall (fun _ _ => 0) ⟨#[], wit, []⟩).memory Tryz.f3.params.toList Rows.playoutMatchesReferenceSpec.vars false wit.toList 8 = some ([.nil, .agg [.lit (.int .i64 0), .lit (.int .i64 0), .lit (.int .i64 0), .lit (.int .i64 0)], .nil, .lit (.int .i64 0)], [], places) :=
  ⟨[], by kernel_rfl⟩

set_option maxRecDepth 100000 in
theorem lifted (os : Os) (started : os.Started) (H : Type) (enc : TypeId × Value → H) (F : Stop.Interp) :
    ReturnsInHanded {} Tryz.checked os 3 .any ((OpenSpec.ofChange Rows.playoutMatchesReferenceSpec).preRow enc Tryz.prog Tryz.f3 Rows.playoutMatchesReferenceRow.domain false Rows.playoutMatchesReferenceRow.laid) (((OpenSpec.ofChange Rows.playoutMatchesReferenceSpec).at F).post enc Tryz.prog Tryz.f3 false true false false) := by
  obtain ⟨places, hx⟩ := reads os enc
  refine returnsInHanded_of_row (C := Tryz.checked) (s := OpenSpec.ofChange Rows.playoutMatchesReferenceSpec) own started (by kernel_rfl) Tryz.func3
    (witness_row_at (enc := enc) (C := Tryz.checked) false (laidWorld os) wit rfl (by kernel_rfl) (by kernel_rfl) (by kernel_rfl)
      (OpenSpec.preRow_of_cond 8 hx (by kernel_rfl) (fun k hk => by cases hk) (by kernel_rfl) (laid_met os))) ?_
  intro W base args ds gs before hval hW _ _ _ hL _ _
  exact contract H enc W base args ds gs before (gl_rep hL) hval hW

theorem said : Rows.PlayoutMatchesReferenceSaid :=
  OpenClaim.holds_of_cond 3 Tryz.f3 rfl rfl rfl rfl rfl rfl rfl ⟨rfl, rfl, rfl, rfl, rfl⟩ rfl rfl rfl rfl rfl (by kernel_rfl) Tryz.func3 (by kernel_rfl)
    (of_decide_eq_true (by kernel_rfl)) (by unfold Func.isWrapper; first | (rw [if_pos (by decide +kernel)]; kernel_rfl) | (rw [if_neg (by decide +kernel)]; exact ⟨rfl, rfl⟩))
    (fun os started H enc _ F => by rw [OpenClaim.pre_eq_preRow]; exact lifted os started H enc F)

theorem plain (f : FuncId) (fn : Func) (hf : Tryz.pinned.checked.prog.funcNamed "onair/onairlaw19.PlayoutMatchesReference" = some f) (hfn : Tryz.pinned.checked.prog.funcs[f]? = some fn) :
    false = Tryz.pinned.checked.prog.looks [] ∧ ∀ (j : Nat) t, fn.params[j]? = some t → Tryz.pinned.checked.prog.wantsStandIn t = false := by
  obtain rfl : f = 3 := Option.some.inj ((show Tryz.prog.funcNamed "onair/onairlaw19.PlayoutMatchesReference" = some 3 by kernel_rfl).symm.trans hf) |>.symm
  obtain rfl : fn = Tryz.f3 := (Option.some.inj (Tryz.func3.symm.trans hfn)).symm
  refine ⟨by kernel_rfl, fun j t ht => ?_⟩
  rw [Tryz.params3] at ht
  have hm := Array.mem_of_getElem? ht
  simp only [List.mem_toArray, List.mem_cons, List.not_mem_nil, or_false] at hm
  rcases hm with rfl | rfl | rfl | rfl
  · exact (show Tryz.prog.wantsStandIn 22 = false by kernel_rfl)
  · exact (show Tryz.prog.wantsStandIn 23 = false by kernel_rfl)
  · exact (show Tryz.prog.wantsStandIn 24 = false by kernel_rfl)
  · exact (show Tryz.prog.wantsStandIn 3 = false by kernel_rfl)

end Go.Proofs.YtedgjnpaebllpaaGreatDoor.law3
namespace Go.Proofs.YtedgjnpaebllpaaGreatDoor
open Go

/-- THE CARD. -/
theorem playoutMatchesReference_card : Rows.PlayoutMatchesReferenceCardSaid :=
  Claim7.holds_tied_plain_at .later [] _ _ _ _ law3.said (fun _ h => by cases h) (by kernel_rfl) (fun _ h => by cases h) playoutMatchesReference_row_tie rfl ⟨rfl, rfl⟩ (by kernel_rfl) rfl law3.plain (by kernel_rfl)
#print axioms playoutMatchesReference_card
end Go.Proofs.YtedgjnpaebllpaaGreatDoor
