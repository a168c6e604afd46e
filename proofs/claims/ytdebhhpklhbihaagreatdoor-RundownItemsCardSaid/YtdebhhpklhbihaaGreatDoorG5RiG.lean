/-
  OWN WORK. Plain law: the reference's rights say of a second what the program's say.
-/
import Derived.Test.YtdebhhpklhbihaaGreatDoorG5RiF
set_option linter.unusedVariables false
set_option linter.unusedSimpArgs false
namespace Go.Proofs.YtdebhhpklhbihaaGreatDoor
open Go Go.Abs

theorem cnt6_eq (item region : Int) (c : Cl) : cnt6 item region c = cntB item region c := by
  unfold cnt6 cntK cntB concB has6 wi bitC
  by_cases hr : 0 ≤ region ∧ region ≤ 7
  · have h1 : 0 ≤ region ∧ region < 8 := by omega
    have h2 : min region.toNat 64 = region.toNat := by omega
    have h3 : c.re.fdiv (2 ^ region.toNat) = c.re / 2 ^ region.toNat := Int.fdiv_eq_ediv_of_nonneg _ (Int.le_of_lt (Int.pow_pos (by omega)))
    rw [if_pos h1, h2, h3, decide_eq_true hr]
    by_cases k1 : c.ki = 1
    · simp [k1]
      cases validC c <;> simp

    · by_cases k2 : c.ki = 2
      · simp [k2]
        cases validC c <;> simp
      · simp [k1, k2]
  · have h1 : ¬ (0 ≤ region ∧ region < 8) := by omega
    rw [if_neg h1, decide_eq_false hr]
    simp
theorem filter6 (cs : List Cl) (item region : Int) : cs.filter (cnt6 item region) = cntC cs item region := by
  unfold cntC
  exact List.filter_congr fun c _ => cnt6_eq item region c

theorem refL_ok (C : List Cl) (Ed : List Int) (hasc : Ed.Pairwise (· < ·)) : ∀ j, j ≤ Ed.length - 1 → NE (refL C Ed j) ∧ ∀ x, hasS (refL C Ed j) x ↔ ∃ i, i < j ∧ grX C (Ed.getD i 0) = true ∧ Ed.getD i 0 ≤ x ∧ x < Ed.getD (i + 1) 0
  | 0, _ => ⟨fun _ h => (by cases h), fun x => by simp [refL]⟩
  | j + 1, hj => by
    obtain ⟨i1, i2⟩ := refL_ok C Ed hasc j (by omega)
    rw [refL]
    split
    · rename_i hg
      obtain ⟨a1, a2⟩ := addA_ok (f := Ed.getD j 0) (t := Ed.getD (j + 1) 0) i1
      refine ⟨a1, fun x => ?_⟩
      rw [a2, i2]
      constructor
      · rintro (⟨i, h1, h2⟩ | h)
        · exact ⟨i, by omega, h2⟩
        · exact ⟨j, by omega, hg, h⟩
      · rintro ⟨i, h1, h2, h3⟩
        rcases Nat.lt_or_ge i j with h | h
        · exact .inl ⟨i, h, h2, h3⟩
        · obtain rfl : i = j := by omega
          exact .inr h3
    · rename_i hg
      refine ⟨i1, fun x => ?_⟩
      rw [i2]
      constructor
      · rintro ⟨i, h1, h2⟩; exact ⟨i, by omega, h2⟩
      · rintro ⟨i, h1, h2, h3⟩
        rcases Nat.lt_or_ge i j with h | h
        · exact ⟨i, h, h2, h3⟩
        · obtain rfl : i = j := by omega
          exact absurd h2 hg

theorem nb_gap {Bd : List Int} (hasc : Bd.Pairwise (· < ·)) {j : Nat} {u w : Int} (hu : Bd[j]? = some u) (hw : Bd[j + 1]? = some w) : ∀ y ∈ Bd, y ≤ u ∨ w ≤ y := by
  intro y hy
  obtain ⟨k, hk⟩ := List.getElem?_of_mem hy
  rcases Nat.lt_or_ge j k with h | h
  · right
    have q1 := bsS_lt_iff (x := w) hasc hk
    have q2 := bsS_lt_iff (x := w) hasc hw
    omega
  · left
    have q1 := bsS_lt_iff (x := y) hasc hk
    have q2 := bsS_lt_iff (x := y) hasc hu
    omega
theorem gr_nb {C : List Cl} {Bd : List Int} (hasc : Bd.Pairwise (· < ·)) (hmem : ∀ c ∈ C, c.fr ∈ Bd ∧ c.to ∈ Bd) {j : Nat} {u w x : Int} (hu : Bd[j]? = some u) (hw : Bd[j + 1]? = some w) (h1 : u ≤ x) (h2 : x < w) : grX C u = grX C x := by
  unfold grX
  rw [find_congr (q := covB x)]
  intro c hc
  obtain ⟨m1, m2⟩ := hmem c (List.mem_reverse.1 hc)
  have g1 := nb_gap hasc hu hw _ m1
  have g2 := nb_gap hasc hu hw _ m2
  unfold covB
  exact decide_eq_decide.2 (by omega)

theorem ref6_has (cs : List Cl) (item region x : Int) : hasS (ref6 cs item region) x ↔ grX (cntC cs item region) x = true := by
  unfold ref6
  rw [filter6]
  generalize hC : cntC cs item region = C
  have hlt : ∀ c ∈ C, c.fr < c.to := by rw [← hC]; exact cntC_lt
  obtain ⟨hasc, hm⟩ := edS_all C
  have hmem : ∀ c ∈ C, c.fr ∈ edS C ∧ c.to ∈ edS C := fun c hc => ⟨(hm _).2 (bnd_mem hc).1, (hm _).2 (bnd_mem hc).2⟩
  rw [(refL_ok C (edS C) hasc _ (Nat.le_refl _)).2]
  generalize edS C = Ed at *
  constructor
  · rintro ⟨j, hj, hg, h1, h2⟩
    obtain ⟨u, hu⟩ : ∃ u, Ed[j]? = some u := ⟨_, List.getElem?_eq_getElem (by omega)⟩
    obtain ⟨w, hw⟩ : ∃ w, Ed[j + 1]? = some w := ⟨_, List.getElem?_eq_getElem (by omega)⟩
    rw [getD_of hu] at hg h1; rw [getD_of hw] at h2
    rw [← gr_nb hasc hmem hu hw h1 h2]; exact hg
  · intro hg
    have hg' := hg
    rw [grX] at hg
    cases hf : C.reverse.find? (covB x) with
    | none => rw [hf] at hg; simp at hg
    | some c =>
      have hc := List.mem_reverse.1 (List.mem_of_find?_eq_some hf)
      have hi := List.find?_some hf
      simp only [covB, decide_eq_true_eq] at hi
      obtain ⟨m1, m2⟩ := hmem c hc
      obtain ⟨k1, hk1⟩ := List.getElem?_of_mem m1
      obtain ⟨k2, hk2⟩ := List.getElem?_of_mem m2
      have a1 := (bsS_lt_iff (x := x + 1) hasc hk1).2 (by omega)
      have a2 := bsS_lt_iff (x := x + 1) hasc hk2
      have l2 := (List.getElem?_eq_some_iff.1 hk2).1
      obtain ⟨j, hj⟩ : ∃ j, bsS Ed (x + 1) = j + 1 := ⟨bsS Ed (x + 1) - 1, by omega⟩
      have hj1 : j + 1 < Ed.length := by omega
      obtain ⟨u, hu⟩ : ∃ u, Ed[j]? = some u := ⟨_, List.getElem?_eq_getElem (by omega)⟩
      obtain ⟨w, hw⟩ : ∃ w, Ed[j + 1]? = some w := ⟨_, List.getElem?_eq_getElem hj1⟩
      have b1 := bsS_lt_iff (x := x + 1) hasc hu
      have b2 := bsS_lt_iff (x := x + 1) hasc hw
      refine ⟨j, by omega, ?_, by rw [getD_of hu]; omega, by rw [getD_of hw]; omega⟩
      rw [getD_of hu, gr_nb (x := x) hasc hmem hu hw (by omega) (by omega)]; exact hg'

/-! ### Permitted -/
def permB (p : Pl) (item region f : Int) : Bool := match fndI item p.its with
  | none => false
  | some it => if region < 0 ∨ 8 ≤ region ∨ f < 0 ∨ 100000000 < f then false else if it.ki = 5 then true else if timedB p = false then false else
    hasB (ref6 p.cls item region) (p.ep + secR p.nu p.de f) && (wshS p.cls it.ra).all fun w => wthB p.of p.sh (p.ep + secR p.nu p.de f) w.1 w.2
theorem permB_iff (p : Pl) (item region f : Int) : permB p item region f = true ↔ permX p item region f := by
  unfold permB permX
  cases hf : fndI item p.its with
  | none => simp
  | some it =>
    have hid := (fndI_mem hf).2
    simp only [Option.some.injEq, exists_eq_left']
    split
    · rename_i hb
      simp only [Bool.false_eq_true, false_iff]
      rintro ⟨h1, h2, _⟩; omega
    · rename_i hb
      simp only [not_or] at hb
      unfold permI
      by_cases hk : it.ki = 5
      · rw [if_pos hk]
        simp only [hk, true_or, and_true, true_iff]
        omega
      · rw [if_neg hk]
        cases ht : timedB p with
        | false => simp [hk]
        | true =>
          have hz : validZ p.of p.sh = true := by
            simp only [timedB, Bool.and_eq_true] at ht; exact ht.1.2
          simp only [Bool.true_eq_false, if_false, Bool.and_eq_true, hasB_iff, List.all_eq_true, hk, false_or, true_and]
          rw [ref6_has, hid]
          constructor
          · rintro ⟨h1, h2⟩
            refine ⟨by omega, by omega, h1, fun w hw => ?_⟩
            obtain ⟨d1, d2⟩ := wshS_day w hw
            exact (wthB_iff hz d1 d2).1 (h2 w hw)
          · rintro ⟨_, _, h1, h2⟩
            refine ⟨h1, fun w hw => ?_⟩
            obtain ⟨d1, d2⟩ := wshS_day w hw
            exact (wthB_iff hz d1 d2).2 (h2 w hw)
end Go.Proofs.YtdebhhpklhbihaaGreatDoor
