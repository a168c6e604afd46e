/-
  OWN WORK. Contracts of the reference's opt-outs (onairref17).
-/
import Derived.Test.YtedgjnpaebllpaaGreatDoorLwR2
import Derived.Test.YtedgjnpaebllpaaGreatDoorLwM
set_option linter.unusedVariables false
set_option linter.unusedSimpArgs false
namespace Go.Proofs.YtedgjnpaebllpaaGreatDoor
open Go Go.Abs

theorem wk_agg {l l' : List AV} (h : WkL l l') : Wk (.agg l) (.agg l') := fun w γ v hr => by
  have key : ∀ {l l' : List AV}, WkL l l' → l.length = l'.length ∧ ∀ (i : Nat) (c' : AV), l'[i]? = some c' → ∃ c, l[i]? = some c ∧ Wk c c' := by
    intro l
    induction l with
    | nil => intro l' h; cases l' with
      | nil => exact ⟨rfl, fun i c' h => by simp at h⟩
      | cons _ _ => exact h.elim
    | cons a l ih => intro l' h; cases l' with
      | nil => exact h.elim
      | cons b l' =>
        obtain ⟨h1, h2⟩ := ih h.2
        refine ⟨by simp [h1], fun i c' hc => ?_⟩
        cases i with
        | zero => simp at hc; subst hc; exact ⟨a, rfl, h.1⟩
        | succ i => simpa using h2 i c' (by simpa using hc)
  obtain ⟨h1, h2⟩ := key h
  cases hr with
  | agg hl hc =>
    refine .agg (by omega) fun i c' v hc' hv => ?_
    obtain ⟨c, g1, g2⟩ := h2 i c' hc'
    exact g2 _ _ _ (hc i c v g1 hv)

set_option maxRecDepth 100000 in
theorem rplaced_pure (e : Evt) (h : Small e) : Pure Tryz.prog gl0 50 [.agg (evtRow e)] (.bool (decide (1 ≤ e.fr))) := by
  obtain ⟨⟨a1, a2⟩, ⟨a3, a4⟩, a5, a6⟩ := h
  refine pureE code50 (fun _ _ _ => .junk) (by simp) ?_
  have e2 : e.st ≤ 100000000 := by omega
  have e3 : e.fr ≤ 100000000 := by omega
  by_cases h1 : 1 ≤ e.fr
  · simp [sc50, rs50, evtRow, isCell_ok1 (ok1_alA _), a1, e2, e3, h1]
  · simp [sc50, rs50, evtRow, isCell_ok1 (ok1_alA _), a1, e2, e3, h1]

set_option maxRecDepth 100000 in
set_option maxHeartbeats 1000000 in
theorem rvalid_pure (o : Opt) (h1 : -1000000 ≤ o.st ∧ o.st ≤ 1000000) (h2 : 1 ≤ o.fr ∧ o.fr ≤ 2000000) : Pure Tryz.prog gl0 70 [.agg (ownRow o)] (.bool (decide (0 ≤ o.st) && o.al)) := by
  refine pureE code70 (fun _ _ _ => .junk) (by simp) ?_
  have e1 : ¬ o.fr = 0 := by omega
  have e2 : ¬ 100000000 < o.st := by omega
  have e3 : ¬ o.fr < 1 := by omega
  have e4 : ¬ 100000000 < o.fr := by omega
  have w11 : IntKind.i64.wrap 1 = 1 := by rw [wrap_in] <;> omega
  by_cases h0 : 0 ≤ o.st
  · have e5 : ¬ o.st < 0 := by omega
    cases hal : o.al with
    | false => simp [sc70, rs70, ownRow, alO, hal, e1, e2, e3, e4, e5, h0]
    | true =>
      simp [sc70, rs70, ownRow, alO, hal, e1, e2, e3, e4, e5, h0]
      refine vc_loopE [2, 3, 4, 5, 44, 45, 46, 47, 48, 49, 50, 51, 52, 53, 54, 55, 56, 57, 58, 59, 60, 61, 62, 63, 64, 65, 66, 67, 68, 69, 70, 71, 72, 73, 74, 75, 76]
        (fun g m => ∃ rest, m = ⟨[I o.st, I o.fr, .sl .ro [[I 1, I 8]]] :: rest, [], fun _ => .gone, 0⟩ ∧ ((g 4 = I 0 ∧ g 3 = I 0) ∨ g 4 = I 1)) (fun g _ => 1 - (numOf (g 4)).toNat) ⟨[], rfl, .inl ⟨by simp, by simp⟩⟩ ?_
      rintro g m ⟨rest, rfl, ⟨h4, h3⟩ | h4⟩
      · simp [h4, h3, w11]
        refine ag ?_
        repeat (first | exact agree_refl _ _ | refine agree_cons _ rfl ?_)
      · simp [h4]
  · have e5 : o.st < 0 := by omega
    simp [sc70, rs70, ownRow, alO, e1, e2, e3, e4, e5, h0]

def zOr : AV := .agg [I 0, I 0, .sl .nil []]
set_option maxRecDepth 100000 in
set_option maxHeartbeats 1000000 in
theorem rof_pure (e : Evt) (h : Small e) : Pure Tryz.prog gl0 51 [.agg (evtRow e)] (if 1 ≤ e.fr then .tup [.agg (ownRow (optE e)), .bool (valE e)] else .tup [zOr, .bool false]) := by
  have hp := rplaced_pure e h
  obtain ⟨⟨a1, a2⟩, ⟨a3, a4⟩, a5, a6⟩ := h
  have e1 : ¬ e.i < 0 := by omega
  have e2 : ¬ 100000000 < e.i := by omega
  by_cases h1 : 1 ≤ e.fr
  · have hv := rvalid_pure (optE e) ⟨by simp only [optE]; omega, by simp only [optE]; omega⟩ ⟨by simp only [optE]; omega, by simp only [optE]; omega⟩
    rw [if_pos h1]
    have w1 : IntKind.i64.wrap (e.st - e.i) = e.st - e.i := by rw [wrap_in] <;> omega
    have w2 : IntKind.i64.wrap (e.fr + e.i) = e.fr + e.i := by rw [wrap_in] <;> omega
    refine pureE code51 (fun _ g _ => if g = 50 then .bool true else .bool (valE e)) (by simp) ?_
    cases hal : e.al with
    | false =>
      simp only [evtRow, hal, alA, Bool.false_eq_true, if_false, h1, decide_true] at hp
      simp only [ownRow, optE, hal, alO, Bool.false_eq_true, if_false, Bool.and_false] at hv
      simp [sc51, rs51, evtRow, hal, alA, ownRow, optE, alO, valE, e1, e2, w1, w2]
      exact ⟨hp, hv⟩
    | true =>
      simp only [evtRow, hal, alA, if_true, h1, decide_true] at hp
      simp only [ownRow, optE, hal, alO, if_true, Bool.and_true] at hv
      have hde : decide (0 ≤ e.st - e.i) = decide (e.i ≤ e.st) := by simp
      rw [hde] at hv
      simp [sc51, rs51, evtRow, hal, alA, ownRow, optE, alO, valE, e1, e2, w1, w2]
      exact ⟨hp, hv⟩
  · rw [if_neg h1]
    refine pureE code51 (fun _ g _ => .bool false) (by simp) ?_
    cases hal : e.al with
    | false =>
      simp only [evtRow, hal, alA, Bool.false_eq_true, if_false, h1, decide_false] at hp
      simp [sc51, rs51, evtRow, hal, alA, zOr]
      exact hp
    | true =>
      simp only [evtRow, hal, alA, if_true, h1, decide_false] at hp
      simp [sc51, rs51, evtRow, hal, alA, zOr]
      exact hp
end Go.Proofs.YtedgjnpaebllpaaGreatDoor
