/-
  OWN WORK. optout.Next: its contract.
-/
import Derived.Test.YtedgjnpaebllpaaGreatDoorLwR3
set_option linter.unusedVariables false
set_option linter.unusedSimpArgs false
namespace Go.Proofs.YtedgjnpaebllpaaGreatDoor
open Go Go.Abs

theorem find_take {q : List Evt} {p : Evt → Bool} {i : Nat} {e : Evt} (h : ∀ x ∈ q.take i, p x = false) (hy : q[i]? = some e) (he : p e = true) : q.find? p = some e := by
  have hlt := (List.getElem?_eq_some_iff.1 hy).1
  have hsp : q = q.take i ++ e :: q.drop (i + 1) := by
    have := List.take_append_drop i q
    rw [drop_cons hy] at this
    exact this.symm
  rw [hsp, List.find?_append]
  have hn : (q.take i).find? p = none := List.find?_eq_none.2 fun x hx => by simp [h x hx]
  rw [hn]
  simp [he]

set_option maxRecDepth 100000 in
set_option maxHeartbeats 1000000 in
theorem next30_pure (l : List Evt) (f : Int) (hl : l.length ≤ 1000000000) (hs : ∀ e ∈ l, Small e) : Pure Tryz.prog gl0 22 [.sl .ro (l.map evtRow), I f] (.agg (ownRow (nextS f l))) := by
  have he := oevents_pure (l.map evtRow)
  have hit := oevents_iter l hl hs
  have hsm : ∀ e ∈ plc l, Small e ∧ 1 ≤ e.fr := fun e h => ⟨hs e (plc_mem h).1, (plc_mem h).2⟩
  refine pureE code22 (orc30 l f zO) (by simp) ?_
  rw [sc22_eq]
  simp [hd22, orc30]
  refine ⟨he, ?_⟩
  refine vc_rfunc (xs := (plc l).map fun e => [.agg (evtRow e)]) (by simp) hit (by intro x hx; simp at hx; obtain ⟨a, _, rfl⟩ := hx; rfl)
    (fun i m => (∃ rest, m.boxes = [I f] :: zrow :: rest) ∧ ∀ x ∈ (plc l).take i, onB f x = false)
    (fun ex m => ∃ e rest, (plc l).find? (onB f) = some e ∧ ((ex = .ret ∧ valE e = true ∧ m.boxes = [I f] :: ownRow (optE e) :: rest) ∨ (ex = .exit 0 ∧ valE e = false ∧ m.boxes = [I f] :: zrow :: rest))) ?_ ?_ ?_ ?_ ?_ ?_
  · exact ⟨⟨[], by simp [zrow]⟩, by simp⟩
  · rintro i m m' ⟨⟨rest, h2⟩, h3⟩ ⟨⟨b2, e2⟩, _, _⟩
    exact ⟨⟨rest ++ b2, by rw [e2, h2]; simp⟩, h3⟩
  · rintro ex m m' ⟨e, rest, h1, h2⟩ ⟨⟨b2, e2⟩, _, _⟩
    refine ⟨e, rest ++ b2, h1, ?_⟩
    rcases h2 with ⟨a1, a2, a3⟩ | ⟨a1, a2, a3⟩
    · exact .inl ⟨a1, a2, by rw [e2, a3]; simp⟩
    · exact .inr ⟨a1, a2, by rw [e2, a3]; simp⟩
  · rintro l1 i m x hg hr ⟨⟨rest, hb⟩, hno⟩ hx K' k1 k2 k3
    obtain ⟨e, hy, rfl⟩ : ∃ e, (plc l)[i]? = some e ∧ [.agg (evtRow e)] = x := by
      rw [List.getElem?_map] at hx
      cases hq : (plc l)[i]? with
      | none => rw [hq] at hx; cases hx
      | some y => rw [hq] at hx; exact ⟨y, rfl, Option.some.inj hx⟩
    have htk : (plc l).take (i + 1) = (plc l).take i ++ [e] := by rw [List.take_add_one, hy]; rfl
    obtain ⟨hsme, hfr⟩ := hsm e (List.mem_of_getElem? hy)
    have hru := runs_pure e f hsme
    have hop := opt_pure e hsme hfr
    have how := own_pure (optE e)
    rw [at_boxes] at hb
    obtain ⟨mb, mlens, mst, mln⟩ := m
    simp only at hb hr
    subst hb
    cases hon : onB f e with
    | false =>
      have h2 : (decide (e.st ≤ f) && decide (f < e.st + e.fr)) = false := by simpa [onB] using hon
      rw [hon] at hru
      have hno' : ∀ x ∈ (plc l).take (i + 1), onB f x = false := by
        rw [htk]
        intro x hx
        rcases List.mem_append.1 hx with h | h
        · exact hno x h
        · simp at h; subst h; exact hon
      cases hal : e.al with
      | true =>
        simp only [evtRow, hal, alA, if_true] at hru
        simp [set_env, evtRow, hal, alA, orc30, hr, h2, zrow]
        exact ⟨hru, k1 _ ⟨⟨_, rfl⟩, hno'⟩⟩
      | false =>
        simp only [evtRow, hal, alA, Bool.false_eq_true, if_false] at hru
        simp [set_env, evtRow, hal, alA, orc30, hr, h2, zrow]
        exact ⟨hru, k1 _ ⟨⟨_, rfl⟩, hno'⟩⟩
    | true =>
      have h2 : (decide (e.st ≤ f) && decide (f < e.st + e.fr)) = true := by simpa [onB] using hon
      have hfind := find_take hno hy hon
      rw [hon] at hru
      cases hal : e.al with
      | false =>
        have hv : valE e = false := by simp [valE, hal]
        simp only [evtRow, hal, alA, Bool.false_eq_true, if_false] at hru
        simp only [evtRow, optRow, optE, valE, hal, alA, Bool.false_eq_true, if_false, Bool.and_false] at hop
        simp [set_env, evtRow, hal, alA, orc30, hr, h2, zrow]
        exact ⟨hru, hop, k3 0 _ ⟨e, _, hfind, .inr ⟨rfl, hv, rfl⟩⟩⟩
      | true =>
        simp only [evtRow, hal, alA, if_true] at hru
        simp only [evtRow, optRow, optE, valE, hal, alA, if_true, Bool.and_true] at hop
        by_cases hst : 0 ≤ e.st - e.i
        · have hv : valE e = true := by simp [valE, hal]; omega
          have hst' : e.i ≤ e.st := by omega
          simp only [hst, decide_true] at hop
          simp only [optRow, ownRow, optE, hal, alA, alO, if_true] at how
          simp [set_env, evtRow, hal, alA, orc30, hr, h2, hst, hst', zrow]
          exact ⟨hru, hop, how, k2 _ ⟨e, rest ++ [[I e.id, I e.it, I e.st, I e.fr, I e.i, I e.re, .sl .ro [[I 1, I 8]]], [I (e.st - e.i), I (e.fr + e.i), .sl .ro [[I 1, I 8]]]], hfind, .inl ⟨rfl, hv, by simp [ownRow, optE, hal, alO]⟩⟩⟩
        · have hv : valE e = false := by simp [valE, hal]; omega
          have hst' : ¬ e.i ≤ e.st := by omega
          simp only [hst, decide_false] at hop
          simp [set_env, evtRow, hal, alA, orc30, hr, h2, hst, hst', zrow]
          exact ⟨hru, hop, k3 0 _ ⟨e, _, hfind, .inr ⟨rfl, hv, rfl⟩⟩⟩
  · rintro m ⟨⟨rest, hb⟩, hno⟩
    have hfn : (plc l).find? (onB f) = none := List.find?_eq_none.2 fun x hx => by
      have := hno x (by simpa using hx)
      simp [this]
    have hnx : nextS f l = (offers f (plc l)).getD zO := by simp only [nextS, hfn]
    rw [hnx]
    simp
    exact second30 l f hl hs zO m rest hb _ (by simp) (by simp) (by simp) _ (fun s => by simp)
  · rintro ex m ⟨e, rest, h1, h2⟩
    rcases h2 with ⟨rfl, hv, hb⟩ | ⟨rfl, hv, hb⟩
    · have hnx : nextS f l = optE e := by simp only [nextS, h1, hv, if_true]
      rw [hnx]
      simp [rs22, hb, ownRow, alO]
    · have hnx : nextS f l = (offers f (plc l)).getD zO := by simp only [nextS, h1, hv, Bool.false_eq_true, if_false]
      rw [hnx]
      simp
      exact second30 l f hl hs zO m rest hb _ (by simp) (by simp) (by simp) _ (fun s => by simp)
end Go.Proofs.YtedgjnpaebllpaaGreatDoor
