/-
  OWN WORK. The readings of [4]int, [][4]int and int.
-/
import Derived.Test.YtedgjnpaebllpaaGreatDoorLwM
set_option linter.unusedVariables false
set_option linter.unusedSimpArgs false
namespace Go.Proofs.YtedgjnpaebllpaaGreatDoor
open Go Go.Abs

theorem list4 {α : Type} {l : List α} (h : l.length = 4) : ∃ a0 a1 a2 a3, l = [a0, a1, a2, a3] := by
  match l, h with
  | [a0, a1, a2, a3], _ => exact ⟨a0, a1, a2, a3, rfl⟩

set_option maxRecDepth 100000 in
theorem avs_q4 {H : Type} {x : DataW H} {n : Nat} (h : Typed Tryz.prog (n + 2) 23 x) : ∃ q : Q4, Q4OK q ∧ avs Tryz.prog (n + 2) 23 x = q4Row q := by
  obtain ⟨parts, rfl, hlen, hp⟩ := typed_array Tryz.underlying23 h
  obtain ⟨a0, a1, a2, a3, rfl⟩ := list4 hlen
  obtain ⟨m0, rfl, w0⟩ := typed_int Tryz.underlying3 (hp a0 (by simp))
  obtain ⟨m1, rfl, w1⟩ := typed_int Tryz.underlying3 (hp a1 (by simp))
  obtain ⟨m2, rfl, w2⟩ := typed_int Tryz.underlying3 (hp a2 (by simp))
  obtain ⟨m3, rfl, w3⟩ := typed_int Tryz.underlying3 (hp a3 (by simp))
  refine ⟨⟨m0, m1, m2, m3⟩, ⟨wf64 w0, wf64 w1, wf64 w2, wf64 w3⟩, ?_⟩
  rw [avs_array Tryz.underlying23]
  simp only [List.flatMap_cons, List.flatMap_nil]
  rw [avs_int Tryz.underlying3, avs_int Tryz.underlying3, avs_int Tryz.underlying3, avs_int Tryz.underlying3]
  rfl

set_option maxRecDepth 100000 in
theorem arg_q4 {H : Type} {x : DataW H} {n : Nat} (h : Typed Tryz.prog (n + 2) 23 x) : ∃ q : Q4, Q4OK q ∧ argOf Tryz.prog (n + 2) 23 x = .agg (q4Row q) := by
  have hagg : aggT Tryz.prog 23 = true := by unfold aggT; rw [Tryz.underlying23]
  obtain ⟨q, h1, h2⟩ := avs_q4 h
  exact ⟨q, h1, by rw [arg_agg hagg, h2]⟩

set_option maxRecDepth 100000 in
theorem arg_int {H : Type} {x : DataW H} {n : Nat} (h : Typed Tryz.prog (n + 1) 3 x) : ∃ m : Int, i64 m ∧ argOf Tryz.prog (n + 1) 3 x = I m := by
  have hagg : aggT Tryz.prog 3 = false := by unfold aggT; rw [Tryz.underlying3]
  obtain ⟨m, rfl, w⟩ := typed_int Tryz.underlying3 h
  exact ⟨m, wf64 w, by rw [arg_one hagg (avs_int Tryz.underlying3 _ _)]⟩

set_option maxRecDepth 100000 in
theorem arg_q4s {H : Type} {x : DataW H} {n : Nat} (h : Typed Tryz.prog (n + 3) 22 x) : ∃ X : List Q4, (∀ y ∈ X, Q4OK y) ∧ X.length ≤ 9223372036854775807 ∧ Wk (argOf Tryz.prog (n + 3) 22 x) (.sl .ro (X.map q4Row)) := by
  have hagg : aggT Tryz.prog 22 = false := by unfold aggT; rw [Tryz.underlying22]
  rcases typed_slice Tryz.underlying22 h with rfl | ⟨elems, spare, rfl, hl, he⟩
  · refine ⟨[], by simp, by simp, ?_⟩
    rw [arg_one hagg (avs_nil Tryz.underlying22)]
    exact Wk.sl _ _
  · have key : ∃ X : List Q4, (∀ y ∈ X, Q4OK y) ∧ elems.map (avs Tryz.prog (n + 2) 23) = X.map q4Row := by
      clear hl h
      induction elems with
      | nil => exact ⟨[], by simp, rfl⟩
      | cons y ys ih =>
        obtain ⟨X, h1, h2⟩ := ih fun z hz => he z (by simp [hz])
        obtain ⟨q, hq, hv⟩ := avs_q4 (he y (by simp))
        refine ⟨q :: X, ?_, ?_⟩
        · intro z hz
          rcases List.mem_cons.1 hz with rfl | hz
          · exact hq
          · exact h1 z hz
        · rw [List.map_cons, h2, hv]; rfl
    obtain ⟨X, h1, h2⟩ := key
    refine ⟨X, h1, ?_, ?_⟩
    · have : X.length = elems.length := by have := congrArg List.length h2; simpa using this.symm
      have hm : maxLen ≤ 9223372036854775807 := by decide
      omega
    · rw [arg_one hagg (avs_sl Tryz.underlying22 _ _), h2]
      exact Wk.sl _ _
end Go.Proofs.YtedgjnpaebllpaaGreatDoor
