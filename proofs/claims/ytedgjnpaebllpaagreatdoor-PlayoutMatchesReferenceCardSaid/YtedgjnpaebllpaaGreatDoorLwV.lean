/-
  OWN WORK. The law PlayoutConsecutive on abstract arguments.
-/
import Derived.Test.YtedgjnpaebllpaaGreatDoorLwT
set_option linter.unusedVariables false
set_option linter.unusedSimpArgs false
namespace Go.Proofs.YtedgjnpaebllpaaGreatDoor
open Go Go.Abs

theorem chain_ge : ∀ (l : List Evt) (t : Int), Chain t l → ∀ e ∈ l, t ≤ e.st
  | [], _, _, _, h => by cases h
  | a :: r, t, ⟨h1, h2, h3⟩, e, h => by
    rcases List.mem_cons.1 h with rfl | h
    · omega
    · have := chain_ge r _ h3 e h; omega
theorem chain_uniq (f : Int) : ∀ (l : List Evt) (t : Int), Chain t l → ∀ e ∈ l, ∀ d ∈ l, onB f e = true → onB f d = true → e = d
  | [], _, _, _, h, _, _, _, _ => by cases h
  | a :: r, t, ⟨h1, h2, h3⟩, e, he, d, hd, o1, o2 => by
    simp only [onB, decide_eq_true_eq] at o1 o2
    rcases List.mem_cons.1 he with rfl | he' <;> rcases List.mem_cons.1 hd with rfl | hd'
    · rfl
    · have := chain_ge r _ h3 d hd'; omega
    · have := chain_ge r _ h3 e he'; omega
    · exact chain_uniq f r _ h3 e he' d hd' (by simpa [onB] using o1) (by simpa [onB] using o2)
theorem chain_st : ∀ (l : List Evt) (t : Int), Chain t l → ∀ e ∈ l, ∀ d ∈ l, 0 < e.fr → 0 < d.fr → e.st = d.st → e = d
  | [], _, _, _, h, _, _, _, _, _ => by cases h
  | a :: r, t, ⟨h1, h2, h3⟩, e, he, d, hd, o1, o2, o3 => by
    rcases List.mem_cons.1 he with rfl | he' <;> rcases List.mem_cons.1 hd with rfl | hd'
    · rfl
    · have := chain_ge r _ h3 d hd'; omega
    · have := chain_ge r _ h3 e he'; omega
    · exact chain_st r _ h3 e he' d hd' o1 o2 o3

/-- An asset begins with a key picture. -/
def KeyOK (L : List Asset) : Prop := ∀ a ∈ L, ∀ p, a.pics[0]? = some p → p.key = true
theorem libs_key (xs : List Int) : KeyOK (libs xs 3) := by
  intro a ha p hp
  simp [libs] at ha
  obtain ⟨j, hj, rfl⟩ := ha
  simp [libA, libPics] at hp
  obtain ⟨k, h2, rfl⟩ := hp
  have hk : k = 0 := by
    obtain ⟨hlt, h⟩ := List.getElem?_eq_some_iff.1 h2
    simpa using h.symm
  subst hk
  simp [picOf]

section
variable {ch ve ed c d : Int} {ev : List Evt} {L : List Asset} {f : Int}

theorem unit_none (h : fndE f ev = none) : unitS ch ve ed c d ev L f = slateU ch ve f := by simp [unitS, h]
/-- What a unit is that is no slate. -/
theorem unit_some (hit : (unitS ch ve ed c d ev L f).it ≠ 0) : ∃ e a p, fndE f ev = some e ∧ fnd e.it L = some a ∧ a.pics[(idxE f e).toNat]? = some p ∧ (unitS ch ve ed c d ev L f).it = e.it ∧ (unitS ch ve ed c d ev L f).ix = idxE f e ∧ (unitS ch ve ed c d ev L f).re = e.re ∧ (unitS ch ve ed c d ev L f).key = p.key := by
  cases hfe : fndE f ev with
  | none => rw [unit_none hfe] at hit; exact absurd rfl hit
  | some e =>
    cases hfn : fnd e.it L with
    | none => simp [unitS, hfe, hfn, slateU] at hit
    | some a =>
      cases hp : a.pics[(idxE f e).toNat]? with
      | none => simp [unitS, hfe, hfn, hp, slateU] at hit
      | some p => exact ⟨e, a, p, rfl, hfn, hp, by simp [unitS, hfe, hfn, hp], by simp [unitS, hfe, hfn, hp], by simp [unitS, hfe, hfn, hp], by simp [unitS, hfe, hfn, hp]⟩
theorem unit_is {e : Evt} {a : Asset} {p : Pic} (h1 : fndE f ev = some e) (h2 : fnd e.it L = some a) (h3 : a.pics[(idxE f e).toNat]? = some p) : (unitS ch ve ed c d ev L f).it = e.it ∧ (unitS ch ve ed c d ev L f).ix = idxE f e := by
  simp [unitS, h1, h2, h3]

theorem idxE_nn (hs : ∀ e ∈ ev, Small e) {e : Evt} (h : fndE f ev = some e) : 0 ≤ idxE f e := by
  obtain ⟨hm, ho⟩ := fndE_on h
  have := hs e hm
  simp only [Small] at this
  simp only [onB, decide_eq_true_eq] at ho
  unfold idxE; omega

theorem consec (hs : ∀ e ∈ ev, Small e) (hch : Chain 0 ev) {e g : Evt} (h1 : fndE f ev = some e) (h2 : fndE (f + 1) ev = some g) (h3 : e.st = g.st ∨ g.id = e.id ∧ g.i = e.i + e.fr ∧ g.it = e.it) (hv : (unitS ch ve ed c d ev L (f + 1)).it ≠ 0) :
    (unitS ch ve ed c d ev L f).it = (unitS ch ve ed c d ev L (f + 1)).it ∧ (unitS ch ve ed c d ev L (f + 1)).ix = (unitS ch ve ed c d ev L f).ix + 1 := by
  obtain ⟨m1, o1⟩ := fndE_on h1
  obtain ⟨m2, o2⟩ := fndE_on h2
  have o1' := o1
  have o2' := o2
  simp only [onB, decide_eq_true_eq] at o1 o2
  have key : g.it = e.it ∧ g.i - g.st = e.i - e.st := by
    rcases h3 with h | ⟨_, h4, h5⟩
    · have := chain_st ev 0 hch e m1 g m2 (by omega) (by omega) h
      subst this; exact ⟨rfl, rfl⟩
    · refine ⟨h5, ?_⟩
      have hne : ¬ onB f g = true := fun h => by
        have := chain_uniq f ev 0 hch e m1 g m2 o1' h
        subst this
        omega
      have hne2 : ¬ onB (f + 1) e = true := fun h => by
        have := chain_uniq (f + 1) ev 0 hch e m1 g m2 h o2'
        subst this
        omega
      simp only [onB, decide_eq_true_eq] at hne hne2
      omega
  obtain ⟨e', a, p, q1, q2, q3, q4, q5, _⟩ := unit_some hv
  rw [h2] at q1
  cases q1
  have hi1 := idxE_nn hs h1
  have hi2 := idxE_nn hs h2
  have hix : idxE (f + 1) g = idxE f e + 1 := by unfold idxE; omega
  rw [key.1] at q2
  have hlt : (idxE f e).toNat < a.pics.length := by
    have := (List.getElem?_eq_some_iff.1 q3).1
    omega
  obtain ⟨r1, r2⟩ := unit_is (ch := ch) (ve := ve) (ed := ed) (c := c) (d := d) h1 q2 (List.getElem?_eq_getElem hlt)
  exact ⟨by rw [r1, q4, key.1], by rw [r2, q5, hix]⟩
end

theorem ok_alC (b : Bool) : ok1 (alC b) = true := by cases b <;> rfl


theorem unit_al (ch ve ed c d : Int) (ev : List Evt) (L : List Asset) (f : Int) : ok1 (unitS ch ve ed c d ev L f).al = true := by
  unfold unitS
  repeat' split
  all_goals first | rfl | (cases (nextS f ev).al <;> rfl)
theorem unit_ix (ch ve ed c d : Int) (ev : List Evt) (hs : ∀ e ∈ ev, Small e) (L : List Asset) (f : Int) (hf : -1000000 ≤ f ∧ f ≤ 900000) : -10000000 ≤ (unitS ch ve ed c d ev L f).ix ∧ (unitS ch ve ed c d ev L f).ix ≤ 10000000 := by
  by_cases h : (unitS ch ve ed c d ev L f).it = 0
  · have : (unitS ch ve ed c d ev L f).ix = 0 ∨ ∃ e, fndE f ev = some e ∧ (unitS ch ve ed c d ev L f).ix = idxE f e := by
      unfold unitS
      split
      · exact .inl rfl
      · rename_i e he
        split
        · exact .inl rfl
        · split
          · exact .inl rfl
          · exact .inr ⟨e, he, rfl⟩
    rcases this with h | ⟨e, h1, h2⟩
    · omega
    · have := hs e (fndE_on h1).1
      obtain ⟨⟨a1, a2⟩, ⟨a3, a4⟩, a5, a6⟩ := this
      unfold idxE at h2
      omega
  · obtain ⟨e, a, p, h1, _, _, _, h2, _⟩ := unit_some h
    have := hs e (fndE_on h1).1
    obtain ⟨⟨a1, a2⟩, ⟨a3, a4⟩, a5, a6⟩ := this
    unfold idxE at h2
    omega

end Go.Proofs.YtedgjnpaebllpaaGreatDoor
