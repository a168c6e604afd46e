/-
  OWN WORK. The law RundownBefore on abstract arguments.
-/
import Derived.Test.YtdebhhpklhbihaaGreatDoorC5RwJ
import Derived.Test.YtdebhhpklhbihaaGreatDoorC5RwY
import Derived.Test.YtdebhhpklhbihaaGreatDoorC5RwS
namespace Go.Proofs.YtdebhhpklhbihaaGreatDoor
open Go Go.Abs

theorem wk_alF (b : Option Int) : Wk (alF b) (alA b) := by
  cases b with
  | none => exact Wk.refl _
  | some k => exact Wk.sl _ _
theorem Wk.evts (l : List Evt) : Wk (.sl .ro (l.map evtRowF)) (.sl .ro (l.map evtRow)) :=
  Wk.rows l evtRowF evtRow (fun _ => rfl) fun a j c' h => by
    match j, h with
    | 0, h => exact ⟨c', h, Wk.refl _⟩
    | 1, h => exact ⟨c', h, Wk.refl _⟩
    | 2, h => exact ⟨c', h, Wk.refl _⟩
    | 3, h => exact ⟨c', h, Wk.refl _⟩
    | 4, h => exact ⟨c', h, Wk.refl _⟩
    | 5, h => exact ⟨c', h, Wk.refl _⟩
    | 6, h =>
      have : c' = alA a.al := by simpa [evtRow] using h.symm
      subst this
      exact ⟨alF a.al, rfl, wk_alF _⟩
    | j + 7, h => simp [evtRow] at h

theorem events_ro (X : List Q5) (hX : ∀ x ∈ X, Q5OK x) (hl : X.length ≤ 9223372036854775807) : Pure Tryz.prog gl0 17 [.sl .ro (X.map q5Row)] (.sl .ro ((events X).map evtRow)) := by
  have h := events_pure X hX hl
  by_cases he : X = []
  · rw [if_pos he] at h
    subst he
    exact pure_res h (Wk.sl _ _)
  · rw [if_neg he] at h
    exact pure_res h (Wk.evts _)

theorem evs_all : ∀ (X : List Q5) (s : List Evt), EOK s → Tail s → EOK (evs X s) ∧ (evs X s).length = s.length + X.length
  | [], s, h, _ => ⟨h, by simp [evs]⟩
  | x :: X, s, h, ht => by
    obtain ⟨h1, h2⟩ := newE_ok s x h ht
    obtain ⟨h3, h4⟩ := evs_all X _ h1 h2
    exact ⟨h3, by rw [evs, h4]; simp; omega⟩
theorem events_all (X : List Q5) : (∀ e ∈ events X, (0 ≤ e.st ∧ e.st ≤ 800) ∧ (0 ≤ e.fr ∧ e.fr ≤ 39) ∧ (0 ≤ e.i ∧ e.i ≤ 800)) ∧ (events X).length ≤ 20 := by
  obtain ⟨h1, h2⟩ := evs_all (X.take 20) [] (fun e he => by simp at he) (by simp [Tail, atN])
  have hlen : (events X).length ≤ 20 := by
    unfold events; rw [h2]; simp; omega
  refine ⟨fun e he => ?_, hlen⟩
  have := h1 e he
  unfold events at hlen
  omega

theorem bef_small (f : Int) (hf : 0 ≤ f ∧ f ≤ 1000) : ∀ (l : List Evt), (∀ e ∈ l, Small e) → ∀ e ∈ bef f l, Small e
  | [], _, e, he => by simp [bef] at he
  | a :: l, h, e, he => by
    have ha := h a (by simp)
    have ih := bef_small f hf l (fun x hx => h x (by simp [hx])) e
    simp only [bef] at he
    split at he
    · exact ih he
    · rename_i h1
      rcases List.mem_cons.1 he with rfl | he
      · obtain ⟨⟨a1, a2⟩, ⟨a3, a4⟩, a5, a6⟩ := ha
        refine ⟨⟨a1, a2⟩, ?_, a5, a6⟩
        simp only [cutE]
        split <;> omega
      · exact ih he

theorem fndE_bef (k f : Int) (hk : k < f) : ∀ (l : List Evt), fndE k (bef f l) = (fndE k l).map (cutE f)
  | [] => rfl
  | e :: l => by
    have ih := fndE_bef k f hk l
    simp only [bef]
    by_cases h1 : f ≤ e.st
    · have ho : onB k e = false := by simp [onB]; omega
      rw [if_pos h1, ih]
      simp [fndE, ho]
    · rw [if_neg h1]
      have ho : onB k (cutE f e) = onB k e := by
        simp only [onB, cutE]
        congr 1
        simp only [eq_iff_iff]
        split <;> omega
      simp only [fndE, ho]
      cases onB k e with
      | true => simp
      | false => simpa using ih
theorem fndE_bef_none (k f : Int) (hk : f ≤ k) : ∀ (l : List Evt), fndE k (bef f l) = none
  | [] => rfl
  | e :: l => by
    have ih := fndE_bef_none k f hk l
    simp only [bef]
    by_cases h1 : f ≤ e.st
    · rw [if_pos h1, ih]
    · rw [if_neg h1]
      have ho : onB k (cutE f e) = false := by
        have : ¬ (e.st ≤ k ∧ k < e.st + (if f - e.st < e.fr then f - e.st else e.fr)) := by split <;> omega
        exact decide_eq_false this
      simp [fndE, ho, ih]

def orcB (X : List Q5) (f g : Int) : Nat → FuncId → List AV → AV := fun d _ _ =>
  if d = 18 then .bool true else if d = 20 then .sl .ro ((events X).map evtRow) else if d = 22 then I f else if d = 25 then .sl .ro ((bef f (events X)).map evtRow) else if d = 27 then I g else
  if d = 31 then foundE g (fndE g (events X)) else if d = 38 then foundE g (fndE g (bef f (events X))) else .junk

set_option maxRecDepth 100000 in
set_option maxHeartbeats 4000000 in
theorem law5 (X : List Q5) (frame at_ : Int) (hX : ∀ x ∈ X, Q5OK x) (hl : X.length ≤ 9223372036854775807) (hfr : ok64 frame) (hat : ok64 at_) : Pure Tryz.prog gl0 5 [.sl .ro (X.map q5Row), I frame, I at_] (.bool true) := by
  have h0 := sane_pure
  have h1 := events_ro X hX hl
  obtain ⟨hb, hlen⟩ := events_all X
  have hp1 := pick_pure frame 400 hfr.1 hfr.2 (by omega)
  have hf := pickI_bd' frame 400 (by omega)
  have hp2 := pick_pure at_ 500 hat.1 hat.2 (by omega)
  have hg := pickI_bd' at_ 500 (by omega)
  generalize pickI frame 400 = f at hp1 hf
  generalize pickI at_ 500 = g at hp2 hg
  have hsm : ∀ e ∈ events X, Small e := fun e he => by have := hb e he; simp only [Small]; omega
  have h2 : Pure Tryz.prog gl0 18 [.sl .ro ((events X).map evtRow), I f] (.sl .ro ((bef f (events X)).map evtRow)) := by
    have : ∀ rt, (∀ (id sz : Nat), rt ≠ .own id sz) → ∀ m, cvn m 6 (.sl rt ((bef f (events X)).map evtRow)) = .sl rt ((bef f (events X)).map evtRow) := by
      intro rt hrt m; cases rt <;> first | rfl | exact absurd rfl (hrt _ _)
    by_cases hne : bef f (events X) = []
    · refine pure_res (r := .sl .nil ((bef f (events X)).map evtRow)) (pure_of_eff (before_eff Y0 (events X) f (by omega) hsm (by omega) [] [] _ _ _ ?_)) (Wk.sl _ _)
      rintro bx rt L' (⟨_, rfl, _⟩ | ⟨hn, _, _⟩)
      · rfl
      · exact absurd hne hn
    · refine pure_of_eff (before_eff Y0 (events X) f (by omega) hsm (by omega) [] [] _ _ _ ?_)
      rintro bx rt L' (⟨hn, _, _⟩ | ⟨_, rfl, _⟩)
      · exact absurd hn hne
      · rfl
  have h3 := at_pure (events X) g (by omega) hsm (by simp only [SmallF]; omega)
  have h4 := at_pure (bef f (events X)) g (by have := bef_len f (events X); omega) (bef_small f (by omega) _ hsm) (by simp only [SmallF]; omega)
  refine pureE code5 (orcB X f g) (by simp) ?_
  by_cases hgf : f ≤ g
  · have hn := fndE_bef_none g f hgf (events X)
    cases hc : fndE g (events X) with
    | none =>
      rw [hn] at h4; rw [hc] at h3
      simp only [foundE, zeroE] at h3 h4
      simp [sc5, rs5, orcB, hn, hc, foundE, zeroE, hgf]
      exact ⟨h0, h1, hp1, h2, hp2, h3, h4⟩
    | some e =>
      rw [hn] at h4; rw [hc] at h3
      simp only [foundE, zeroE] at h3 h4
      simp [sc5, rs5, orcB, hn, hc, foundE, zeroE, hgf, alC, isCell_ok1 (ok1_alA _)]
      exact ⟨h0, h1, hp1, h2, hp2, h3, h4⟩
  · have hn := fndE_bef g f (by omega) (events X)
    cases hc : fndE g (events X) with
    | none =>
      rw [hc] at hn h3
      simp only [Option.map_none] at hn
      rw [hn] at h4
      simp only [foundE, zeroE] at h3 h4
      simp [sc5, rs5, orcB, hn, hc, foundE, zeroE, hgf]
      exact ⟨h0, h1, hp1, h2, hp2, h3, h4⟩
    | some e =>
      rw [hc] at hn h3
      simp only [Option.map_some] at hn
      rw [hn] at h4
      simp only [foundE, zeroE, cutE] at h3 h4
      simp [sc5, rs5, orcB, hn, hc, foundE, zeroE, hgf, alC, cutE, isCell_ok1 (ok1_alA _)]
      exact ⟨h0, h1, hp1, h2, hp2, h3, h4⟩
end Go.Proofs.YtdebhhpklhbihaaGreatDoor
