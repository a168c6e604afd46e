/-
  OWN WORK. Contracts: onairref07.Spans (it gives what permit.Spans gives), Allowed.
-/
import Derived.Test.YtdebhhpklhbihaaGreatDoorG5RiH
set_option linter.unusedVariables false
set_option linter.unusedSimpArgs false
namespace Go.Proofs.YtdebhhpklhbihaaGreatDoor
open Go Go.Abs

theorem permS_VS (p : Pl) (id region : Int) (s : Sp) : VS (permS p id region s) := by
  unfold permS
  simp only
  generalize clipS s = c
  cases fndI id p.its with
  | none => exact VS_nil
  | some x =>
    simp only
    split
    · exact VS_nil
    · rename_i hb
      simp only [not_or] at hb
      split
      · exact VS_cons.2 ⟨by omega, fun _ h => (by cases h), VS_nil⟩
      · split
        · exact VS_nil
        · exact (intS_ok _ _).1

theorem addA_VS {L : List Sp} {f t : Int} (h : VS L) (hb : ∀ s ∈ L, s.2 ≤ f) (hft : f < t) : VS (addA L f t) ∧ ∀ s ∈ addA L f t, s.2 ≤ t := by
  unfold addA
  rw [if_pos hft]
  cases hl : L.getLast? with
  | none =>
    simp only
    exact ⟨VS_cons.2 ⟨hft, fun _ h => (by cases h), VS_nil⟩, fun s hs => by simp at hs; subst hs; exact Int.le_refl _⟩
  | some s =>
    obtain ⟨D, rfl⟩ : ∃ D, L = D ++ [s] := by
      have hne : L ≠ [] := by rintro rfl; simp at hl
      refine ⟨L.dropLast, ?_⟩
      have h1 := List.dropLast_concat_getLast hne
      rw [List.getLast?_eq_some_getLast hne] at hl
      cases hl
      exact h1.symm
    obtain ⟨h1, h2, h3⟩ := VS_snoc.1 h
    have hs := hb s (by simp)
    simp only
    split
    · rename_i e
      simp only [List.dropLast_concat]
      refine ⟨VS_snoc.2 ⟨h1, by simp only; omega, fun u hu => h3 u hu⟩, ?_⟩
      intro u hu
      rw [List.mem_append] at hu
      rcases hu with hu | hu
      · have := hb u (by simp [hu]); omega
      · simp at hu; subst hu; exact Int.le_refl _
    · rename_i e
      refine ⟨VS_snoc.2 ⟨h, hft, fun u hu => ?_⟩, ?_⟩
      · rw [List.mem_append] at hu
        rcases hu with hu | hu
        · have := h3 u hu; simp only; omega
        · simp at hu; subst hu; simp only; omega
      · intro u hu
        rw [List.mem_append] at hu
        rcases hu with hu | hu
        · have := hb u hu; omega
        · simp at hu; subst hu; exact Int.le_refl _

theorem perm_const {p : Pl} {item region f x : Int} (hf : 0 ≤ f ∧ f ≤ 100000000) (hx : 0 ≤ x ∧ x ≤ 100000000) (h : timedB p = true → secR p.nu p.de x = secR p.nu p.de f) : permB p item region x = permB p item region f := by
  unfold permB
  cases fndI item p.its with
  | none => rfl
  | some it =>
    simp only
    by_cases hr : region < 0 ∨ 8 ≤ region
    · have c1 : region < 0 ∨ 8 ≤ region ∨ x < 0 ∨ 100000000 < x := by omega
      have c2 : region < 0 ∨ 8 ≤ region ∨ f < 0 ∨ 100000000 < f := by omega
      rw [if_pos c1, if_pos c2]
    · have c1 : ¬ (region < 0 ∨ 8 ≤ region ∨ x < 0 ∨ 100000000 < x) := by omega
      have c2 : ¬ (region < 0 ∨ 8 ≤ region ∨ f < 0 ∨ 100000000 < f) := by omega
      rw [if_neg c1, if_neg c2]
      cases ht : timedB p with
      | false => simp
      | true => rw [h ht]

def endF (p : Pl) (last f : Int) : Int := if timedB p = true then min last (frmR p.nu p.de (secR p.nu p.de f + 1)) else last
theorem endF_ok {p : Pl} {last f : Int} (hl : last ≤ 100000001) (h0 : 0 ≤ f) (hf : f < last) : f < endF p last f ∧ endF p last f ≤ last ∧ ∀ item region x, f ≤ x → x < endF p last f → permB p item region x = permB p item region f := by
  unfold endF
  cases ht : timedB p with
  | false =>
    simp only [Bool.false_eq_true, if_false]
    exact ⟨hf, Int.le_refl _, fun item region x h1 h2 => perm_const ⟨h0, by omega⟩ ⟨by omega, by omega⟩ (fun h => by rw [ht] at h; cases h)⟩
  | true =>
    have hv : validR p.nu p.de = true := by
      simp only [timedB, Bool.and_eq_true] at ht; exact ht.1.1
    simp only [if_true]
    have hs := secR_bd p.nu p.de f
    have hs0 := secR_diff (f := 0) (g := f) hv (by omega) h0 (by omega)
    have hz : secR p.nu p.de 0 = 0 := by rw [secR, if_pos ⟨hv, by omega, by omega⟩]; simp
    have a1 := frm_le (s := secR p.nu p.de f + 1) (f := f) hv (by omega) ⟨h0, by omega⟩
    refine ⟨by omega, by omega, fun item region x h1 h2 => perm_const ⟨h0, by omega⟩ ⟨by omega, by omega⟩ fun _ => ?_⟩
    have a2 := frm_le (s := secR p.nu p.de f + 1) (f := x) hv (by omega) ⟨by omega, by omega⟩
    have a3 := secR_diff (f := f) (g := x) hv h0 h1 (by omega)
    omega

def UpTo (p : Pl) (item region first f : Int) (L : List Sp) : Prop := VS L ∧ (∀ s ∈ L, s.2 ≤ f) ∧ (∀ x, hasS L x ↔ first ≤ x ∧ x < f ∧ permB p item region x = true) ∧ (L.length : Int) ≤ f - first
theorem UpTo.step {p : Pl} {item region first last f : Int} {L : List Sp} (h : UpTo p item region first f L) (hl : last ≤ 100000001) (h0 : 0 ≤ first) (h1 : first ≤ f) (hf : f < last) :
    UpTo p item region first (endF p last f) (if permB p item region f = true then addA L f (endF p last f) else L) := by
  obtain ⟨e1, e2, e3⟩ := endF_ok (p := p) hl (by omega) hf
  obtain ⟨v1, v2, v3, v4⟩ := h
  split
  · rename_i hp
    obtain ⟨a1, a2⟩ := addA_VS v1 v2 e1
    have a3 := (addA_ok (f := f) (t := endF p last f) (show NE L from v1.1)).2
    have a4 := addA_len L f (endF p last f)
    refine ⟨a1, a2, fun x => ?_, by omega⟩
    rw [a3, v3]
    constructor
    · rintro (⟨g1, g2, g3⟩ | ⟨g1, g2⟩)
      · exact ⟨g1, by omega, g3⟩
      · exact ⟨by omega, g2, by rw [e3 item region x g1 g2]; exact hp⟩
    · rintro ⟨g1, g2, g3⟩
      by_cases g : x < f
      · exact .inl ⟨g1, g, g3⟩
      · exact .inr ⟨by omega, g2⟩
  · rename_i hp
    refine ⟨v1, fun s hs => by have := v2 s hs; omega, fun x => ?_, by omega⟩
    rw [v3]
    constructor
    · rintro ⟨g1, g2, g3⟩; exact ⟨g1, by omega, g3⟩
    · rintro ⟨g1, g2, g3⟩
      by_cases g : x < f
      · exact ⟨g1, g, g3⟩
      · rw [e3 item region x (by omega) g2] at g3; exact absurd g3 hp
theorem UpTo.eq {p : Pl} {item region : Int} {s : Sp} {L : List Sp} (h : UpTo p item region (clipS s).1 (clipS s).2 L) (hs : s.2 - s.1 ≤ 1000000) : L = permS p item region s := by
  obtain ⟨v1, _, v3, _⟩ := h
  refine VS_unique v1 (permS_VS p item region s) fun x => ?_
  rw [v3, permS_has p item region s hs, permB_iff]
  obtain ⟨_, _, cx⟩ := clip_ok s
  have := cx x
  constructor
  · rintro ⟨h1, h2, h3⟩
    have := this.1 ⟨h1, h2⟩
    exact ⟨this.1, this.2.1, h3⟩
  · rintro ⟨h1, h2, h3⟩
    obtain ⟨it, q1, q2, q3, q4⟩ := h3
    have := this.2 ⟨h1, h2, q3⟩
    exact ⟨this.1, this.2, it, q1, q2, q3, q4⟩
end Go.Proofs.YtdebhhpklhbihaaGreatDoor
