/-
  OWN WORK. Contracts of the reference's At (onairref10) and Slate (onairref19).
-/
import Derived.Test.YtedgjnpaebllpaaGreatDoorLwE
import Derived.Test.YtedgjnpaebllpaaGreatDoorLwO
import Derived.Test.YtedgjnpaebllpaaGreatDoorMF
set_option linter.unusedVariables false
set_option linter.unusedSimpArgs false
namespace Go.Proofs.YtedgjnpaebllpaaGreatDoor
open Go Go.Abs

set_option maxRecDepth 100000 in
theorem rcontains_pure (e : Evt) (f : Int) (h : Small e) (hf : SmallF f) : Pure Tryz.prog gl0 48 [.agg (evtRow e), I f] (.bool (onB f e)) := by
  refine pureE code48 (fun _ _ _ => .junk) (by simp) ?_
  obtain ⟨⟨a1, a2⟩, ⟨a3, a4⟩, _⟩ := h
  obtain ⟨a5, a6⟩ := hf
  by_cases h1 : e.st ≤ f
  · have w1 := wu e.st (by omega) (by omega)
    have w2 := wu f (by omega) (by omega)
    have w3 := wu (f - e.st) (by omega) (by omega)
    have w4 := wu e.fr (by omega) (by omega)
    by_cases h2 : 0 < e.fr
    · have : (f - e.st < e.fr) = (f < e.st + e.fr) := by apply propext; omega
      simp [sc48, rs48, evtRow, isCell_ok1 (ok1_alA _), h1, h2, onB, w1, w2, w3, w4, this]
    · have : ¬ f < e.st + e.fr := by omega
      simp [sc48, rs48, evtRow, isCell_ok1 (ok1_alA _), h1, h2, onB, this]
  · simp [sc48, rs48, evtRow, isCell_ok1 (ok1_alA _), h1, onB]

theorem fndE_take (f : Int) : ∀ (l : List Evt) (i : Nat) (e : Evt), (∀ x ∈ l.take i, onB f x = false) → l[i]? = some e → onB f e = true → fndE f l = some e
  | [], i, e, _, h, _ => by simp at h
  | a :: l, 0, e, _, h, ho => by simp at h; subst h; simp [fndE, ho]
  | a :: l, i + 1, e, hn, h, ho => by
    have h1 := hn a (by simp)
    simp only [fndE, h1]
    exact fndE_take f l i e (fun x hx => hn x (by simp [hx])) (by simpa using h) ho
theorem fndE_nil (f : Int) : ∀ (l : List Evt), (∀ x ∈ l, onB f x = false) → fndE f l = none
  | [], _ => rfl
  | a :: l, hn => by
    have h1 := hn a (by simp)
    simp only [fndE, h1]
    exact fndE_nil f l fun x hx => hn x (by simp [hx])

set_option maxRecDepth 100000 in
set_option maxHeartbeats 1000000 in
theorem rat_pure (L : List Evt) (f : Int) (hL : L.length ≤ 1000000000) (hs : ∀ e ∈ L, Small e) (hf : SmallF f) : Pure Tryz.prog gl0 23 [.sl .ro (L.map evtRow), I f] (foundE f (fndE f L)) := by
  refine pureE code23 (orcOn f) (by simp) ?_
  simp [sc23, rs23]
  refine vc_loopE [5, 6, 7, 8, 9, 10, 11, 12, 13, 14, 15, 16, 17, 18, 19, 20, 21, 22, 23, 24, 25, 26, 27, 28, 29, 30, 31, 32, 33, 34, 35, 36] (fun g m => ∃ (i : Nat), i ≤ L.length ∧ g 7 = I i ∧ m = ⟨[[I 0, I 0, I 0, I 0, I 0, I 0, .sl .nil []]], [], fun _ => .gone, 0⟩ ∧ ∀ x ∈ L.take i, onB f x = false) (fun g _ => L.length - (numOf (g 7)).toNat) ⟨0, by omega, by simp, rfl, by simp⟩ ?_
  rintro g m ⟨i, hi, h7, rfl, hno⟩
  rcases Nat.lt_or_ge i L.length with hlt | hge
  · obtain ⟨e, he⟩ : ∃ e, L[i]? = some e := ⟨_, List.getElem?_eq_getElem hlt⟩
    have hrow : rowN (L.map evtRow) i = evtRow e := rowN_eq (by simp [he])
    have hsm := hs e (List.mem_of_getElem? he)
    have hc := rcontains_pure e f hsm hf
    obtain ⟨⟨a1, a2⟩, ⟨a3, a4⟩, a5, a6⟩ := hsm
    obtain ⟨hf1, hf2⟩ := hf
    have hw : IntKind.i64.wrap ((i : Int) + 1) = ((i + 1 : Nat) : Int) := by rw [wrap_in] <;> omega
    have w1 : IntKind.i64.wrap (e.i + f) = e.i + f := by rw [wrap_in] <;> omega
    have w2 : IntKind.i64.wrap (e.i + f - e.st) = e.i + f - e.st := by rw [wrap_in] <;> omega
    have htk : L.take (i + 1) = L.take i ++ [e] := by rw [List.take_add_one, he]; rfl
    have hal := isCell_ok1 (ok1_alA e.al)
    have hal6 : ∀ m, cvn m 6 (alA e.al) = alA e.al := fun m => cvn_ok1 m 5 (ok1_alA e.al)
    have hal5 : ∀ m, cvn m 5 (alA e.al) = alA e.al := fun m => cvn_ok1 m 4 (ok1_alA e.al)
    have hal4 : ∀ m, cvn m 4 (alA e.al) = alA e.al := fun m => cvn_ok1 m 3 (ok1_alA e.al)
    have hC : alC e.al = alA e.al := rfl
    cases hon : onB f e with
    | true =>
      have hfe := fndE_take f L i e hno he hon
      have h2 : e.st ≤ f ∧ f < e.st + e.fr := by simpa [onB] using hon
      rw [hon] at hc
      simp [h7, hrow, hlt, hw, evtRow, orcOn, h2.1, h2.2, hal5]
      refine ⟨hc, ?_⟩
      refine vc_drawM ?_
      simp [h7, hrow, hlt, hw, evtRow, orcOn, h2.1, h2.2, w1, w2, hal, hal5, hal4, hal6, hfe, foundE, hC]
    | false =>
      have h2 : (decide (e.st ≤ f) && decide (f < e.st + e.fr)) = false := by simpa [onB] using hon
      rw [hon] at hc
      simp [h7, hrow, hlt, hw, evtRow, orcOn, h2, hal5]
      refine ⟨hc, ag ?_, ⟨i + 1, by omega, by simp, ?_⟩, by omega⟩
      · repeat (first | exact agree_refl _ _ | refine agree_cons _ rfl ?_)
      · rw [htk]
        intro x hx
        rcases List.mem_append.1 hx with h | h
        · exact hno x h
        · simp at h; subst h; exact hon
  · have htk : L.take i = L := List.take_of_length_le hge
    rw [htk] at hno
    rw [fndE_nil f L hno]
    simp [h7, Nat.not_lt.2 hge, foundE, zeroE]
end Go.Proofs.YtedgjnpaebllpaaGreatDoor
