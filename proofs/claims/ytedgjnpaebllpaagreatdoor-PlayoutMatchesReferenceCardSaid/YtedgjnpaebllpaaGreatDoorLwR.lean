/-
  OWN WORK. Contracts: optout's events, opt, runs, follows, own.
-/
import Derived.Test.YtedgjnpaebllpaaGreatDoorLwI
set_option linter.unusedVariables false
set_option linter.unusedSimpArgs false
namespace Go.Proofs.YtedgjnpaebllpaaGreatDoor
open Go Go.Abs

/-- The events with frames. -/
def plc (l : List Evt) : List Evt := l.filter fun e => decide (1 ≤ e.fr)
theorem plc_yes (a : Evt) (r : List Evt) (h : 1 ≤ a.fr) : plc (a :: r) = a :: plc r := by simp [plc, h]
theorem plc_no (a : Evt) (r : List Evt) (h : ¬ 1 ≤ a.fr) : plc (a :: r) = plc r := by
  unfold plc
  rw [List.filter_cons_of_neg (by simpa using h)]
theorem plc_mem {e : Evt} {l : List Evt} (h : e ∈ plc l) : e ∈ l ∧ 1 ≤ e.fr := by simpa [plc] using h

theorem oevents_pure (s : List (List AV)) : Pure Tryz.prog gl0 41 [.sl .ro s] (.fn 65 [] [.ep [.sl .ro s] 0]) := by
  refine pureE code41 (fun _ _ _ => .junk) (by simp) ?_
  simp [sc41, rs41]
theorem optionals_pure (s : List (List AV)) : Pure Tryz.prog gl0 46 [.sl .ro s] (.fn 67 [] [.ep [.sl .ro s] 0]) := by
  refine pureE code46 (fun _ _ _ => .junk) (by simp) ?_
  simp [sc46, rs46]

set_option maxRecDepth 100000 in
theorem oevents_iter (l : List Evt) (hl : l.length ≤ 1000000000) (hs : ∀ e ∈ l, Small e) : Iter Tryz.prog gl0 65 [] [.ep [.sl .ro (l.map evtRow)] 0] ((plc l).map fun e => [.agg (evtRow e)]) := by
  intro Y lp m K hF
  refine effE code65 (fun _ _ _ => .junk) (by simp) ?_
  simp [sc65, rs65]
  refine vc_loopE [4, 7, 8, 9, 10, 11, 12, 13, 14, 15, 16, 17, 18, 19, 20, 21, 22, 23, 24, 25, 26, 27, 28, 29, 30, 31, 32, 33, 34] (fun s m => ∃ i : Nat, s 7 = I i ∧ i ≤ l.length ∧ Fold (Y lp) K ((plc (l.drop i)).map fun e => [.agg (evtRow e)]) m) (fun s m => l.length - (numOf (s 7)).toNat) ?_ ?_
  · exact ⟨0, by simp, by omega, hF⟩
  · rintro s m ⟨i, hi, hle, hr⟩
    rcases Nat.lt_or_ge i l.length with hlt | hge
    · obtain ⟨a, ha⟩ : ∃ a, l[i]? = some a := ⟨l[i], List.getElem?_eq_getElem hlt⟩
      have hrow : rowN (l.map evtRow) i = evtRow a := rowN_eq (by simp [ha])
      have hw : IntKind.i64.wrap ((i : Int) + 1) = ((i + 1 : Nat) : Int) := by rw [wrap_in] <;> omega
      rw [drop_cons ha] at hr
      obtain ⟨⟨a1, a2⟩, ⟨a3, a4⟩, _⟩ := hs a (List.mem_of_getElem? ha)
      have e1 : ¬ a.st < 0 := by omega
      have e2 : ¬ 100000000 < a.st := by omega
      have e4 : ¬ 100000000 < a.fr := by omega
      by_cases h2 : 1 ≤ a.fr
      · have e3 : ¬ a.fr < 1 := by omega
        rw [plc_yes a _ h2] at hr
        simp only [List.map_cons] at hr
        simp [hi, hrow, hlt, hw, evtRow, isCell_ok1 (ok1_alA _), bare_of_isCell (isCell_ok1 (ok1_alA _)), e1, e2, e3, e4]
        refine hr _ (Ext.box m _) _ (fun m2 h2 => ⟨fun h => by simp at h, fun _ => ⟨ag ?_, ⟨i + 1, by simp, by omega, h2⟩, by omega⟩⟩) (fun m2 h2 => ⟨fun _ => h2 m2 (Ext.refl m2), fun h => by simp at h⟩)
        repeat (first | exact agree_refl _ _ | refine agree_cons _ rfl ?_)
      · have e3 : a.fr < 1 := by omega
        rw [plc_no a _ h2] at hr
        simp [hi, hrow, hlt, hw, evtRow, isCell_ok1 (ok1_alA _), e1, e2, e3, e4]
        refine ⟨ag ?_, ⟨i + 1, by simp, by omega, hr.ext (Ext.box m _)⟩, by omega⟩
        repeat (first | exact agree_refl _ _ | refine agree_cons _ rfl ?_)
    · rw [List.drop_eq_nil_of_le hge] at hr
      simp [hi, Nat.not_lt.2 hge]
      exact hr m (Ext.refl m)

/-- An event's opt-out. -/
structure Opt where
  st : Int
  fr : Int
  al : Bool
def alO (b : Bool) : AV := .sl .ro (if b = true then [[I 1, I 8]] else [])
def optRow (o : Opt) : List AV := [I o.st, I o.fr, alA o.al]
def ownRow (o : Opt) : List AV := [I o.st, I o.fr, alO o.al]
def optE (e : Evt) : Opt := ⟨e.st - e.i, e.fr + e.i, e.al⟩
def valE (e : Evt) : Bool := decide (0 ≤ e.st - e.i) && e.al

theorem runs_pure (e : Evt) (f : Int) (h : Small e) : Pure Tryz.prog gl0 42 [.agg (evtRow e), I f] (.bool (onB f e)) := by
  refine pureE code42 (fun _ _ _ => .junk) (by simp) ?_
  obtain ⟨⟨a1, a2⟩, ⟨a3, a4⟩, _⟩ := h
  have w : IntKind.i64.wrap (e.st + e.fr) = e.st + e.fr := by rw [wrap_in] <;> omega
  by_cases h1 : e.st ≤ f
  · simp [sc42, rs42, evtRow, isCell_ok1 (ok1_alA _), h1, w, onB]
  · simp [sc42, rs42, evtRow, isCell_ok1 (ok1_alA _), h1, w, onB]
def folB (f : Int) (e : Evt) : Bool := decide (f < e.st ∧ e.st - 20 ≤ f)
theorem follows_pure (e : Evt) (f : Int) (h : Small e) : Pure Tryz.prog gl0 47 [.agg (evtRow e), I f] (.bool (folB f e)) := by
  refine pureE code47 (fun _ _ _ => .junk) (by simp) ?_
  obtain ⟨⟨a1, a2⟩, ⟨a3, a4⟩, _⟩ := h
  have w : IntKind.i64.wrap (e.st - 20) = e.st - 20 := by rw [wrap_in] <;> omega
  by_cases h1 : f < e.st
  · simp [sc47, rs47, evtRow, isCell_ok1 (ok1_alA _), h1, w, folB]
  · simp [sc47, rs47, evtRow, isCell_ok1 (ok1_alA _), h1, w, folB]
theorem none_pure (o : Opt) (h : 1 ≤ o.fr) : Pure Tryz.prog gl0 81 [.agg (optRow o)] (.bool false) := by
  refine pureE code81 (fun _ _ _ => .junk) (by simp) ?_
  have e1 : (o.fr == 0) = false := by simp; omega
  cases hal : o.al <;> by_cases h0 : o.st = 0
  · simp [sc81, rs81, optRow, alA, hal, h0, e1]
  · have e0 : (o.st == 0) = false := by simpa using h0
    simp [sc81, rs81, optRow, alA, hal, e0, e1]
  · simp [sc81, rs81, optRow, alA, hal, h0, e1]
  · have e0 : (o.st == 0) = false := by simpa using h0
    simp [sc81, rs81, optRow, alA, hal, e0, e1]
theorem own_pure (o : Opt) : Pure Tryz.prog gl0 44 [.agg (optRow o)] (.agg (ownRow o)) := by
  refine pureE code44 (fun _ _ _ => .junk) (by simp) ?_
  cases h : o.al with
  | true => simp [sc44, rs44, optRow, ownRow, h, alA, alO]
  | false => simp [sc44, rs44, optRow, ownRow, h, alA, alO]
set_option maxRecDepth 100000 in
theorem ovalid_pure (o : Opt) (h1 : -1000000 ≤ o.st ∧ o.st ≤ 1000000) (h2 : 1 ≤ o.fr ∧ o.fr ≤ 2000000) : Pure Tryz.prog gl0 66 [.agg (optRow o)] (.bool (decide (0 ≤ o.st) && o.al)) := by
  have hn := none_pure o h2.1
  refine pureE code66 (fun _ _ _ => .bool false) (by simp) ?_
  have e2 : ¬ 100000000 < o.st := by omega
  have e3 : ¬ o.fr < 1 := by omega
  have e4 : ¬ 100000000 < o.fr := by omega
  by_cases h0 : o.st < 0
  · have h0' : ¬ 0 ≤ o.st := by omega
    cases hal : o.al with
    | true =>
      simp only [optRow, hal, alA] at hn
      simp [sc66, rs66, optRow, alA, hal, h0, h0']
      exact hn
    | false =>
      simp only [optRow, hal, alA] at hn
      simp [sc66, rs66, optRow, alA, hal, h0]
      exact hn
  · have h0' : 0 ≤ o.st := by omega
    cases hal : o.al with
    | false =>
      simp only [optRow, hal, alA] at hn
      simp [sc66, rs66, optRow, alA, hal, h0, e2, e3, e4]
      exact hn
    | true =>
      simp only [optRow, hal, alA] at hn
      simp [sc66, rs66, optRow, alA, hal, h0, h0', e2, e3, e4]
      refine ⟨hn, ?_⟩
      refine vc_loopE [3, 5, 39, 40, 41, 42, 43, 44, 45, 46, 47, 48, 49, 50, 51, 52, 53, 54, 55, 56, 57, 58, 59, 60, 61, 62, 63, 64] (fun s m => ((s 39 = I 0 ∧ s 3 = I 0) ∨ s 39 = I 1) ∧ ∃ B, m = ⟨B, [], fun _ => .gone, 0⟩) (fun s m => 2 - (numOf (s 39)).toNat) ?_ ?_
      · exact ⟨.inl ⟨by simp, by simp⟩, _, rfl⟩
      · rintro s m ⟨h | h, B, rfl⟩
        · obtain ⟨h39, h3⟩ := h
          have w1 : IntKind.i64.wrap 1 = 1 := by rw [wrap_in] <;> omega
          simp [h39, h3, w1]
          refine ag ?_
          repeat (first | exact agree_refl _ _ | refine agree_cons _ rfl ?_)
        · simp [h]

set_option maxRecDepth 100000 in
theorem opt_pure (e : Evt) (h : Small e) (h1 : 1 ≤ e.fr) : Pure Tryz.prog gl0 43 [.agg (evtRow e)] (.tup [.agg (optRow (optE e)), .bool (valE e)]) := by
  obtain ⟨⟨a1, a2⟩, ⟨a3, a4⟩, a5, a6⟩ := h
  have hv := ovalid_pure (optE e) ⟨by simp only [optE]; omega, by simp only [optE]; omega⟩ ⟨by simp only [optE]; omega, by simp only [optE]; omega⟩
  refine pureE code43 (fun _ _ _ => .bool (valE e)) (by simp) ?_
  have e1 : ¬ e.i < 0 := by omega
  have e2 : ¬ 100000000 < e.i := by omega
  have w1 : IntKind.i64.wrap (e.st - e.i) = e.st - e.i := by rw [wrap_in] <;> omega
  have w2 : IntKind.i64.wrap (e.fr + e.i) = e.fr + e.i := by rw [wrap_in] <;> omega
  have c5 : ∀ m, cvn m 5 (alA e.al) = alA e.al := fun m => cvn_ok1 m 4 (ok1_alA _)
  have c4 : ∀ m, cvn m 4 (alA e.al) = alA e.al := fun m => cvn_ok1 m 3 (ok1_alA _)
  simp [sc43, rs43, evtRow, isCell_ok1 (ok1_alA _), bare_of_isCell (isCell_ok1 (ok1_alA _)), cellsOf_cell (isCell_ok1 (ok1_alA _)), c5, c4, e1, e2, w1, w2, optRow, optE]
  exact hv
end Go.Proofs.YtedgjnpaebllpaaGreatDoor
