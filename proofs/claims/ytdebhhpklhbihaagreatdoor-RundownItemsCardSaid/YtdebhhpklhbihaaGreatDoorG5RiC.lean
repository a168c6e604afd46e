/-
  OWN WORK. Contracts: onairref06 (the reference's rights): within, Valid, Has, counts.
-/
import Derived.Test.YtdebhhpklhbihaaGreatDoorG5RiB
set_option linter.unusedVariables false
set_option linter.unusedSimpArgs false
namespace Go.Proofs.YtdebhhpklhbihaaGreatDoor
open Go Go.Abs

theorem within6_pure (n lo hi : Int) : Pure Tryz.prog gl0 212 [I n, I lo, I hi] (.bool (wi n lo hi)) := by
  refine pureE code212 (fun _ _ _ => .junk) (by simp) ?_
  by_cases h1 : lo ≤ n <;> by_cases h2 : n ≤ hi <;> simp [sc212, rs212, wi, h1, h2]

set_option maxRecDepth 100000 in
set_option maxHeartbeats 16000000 in
theorem valid6_pure (c : Cl) : Pure Tryz.prog gl0 183 [.agg (clRow c)] (.bool (validC c)) := by
  have kw := within6_pure
  refine pureE code183 orcW (by simp) ?_
  by_cases h1 : c.ki = 1
  · simp [sc183, rs183, clRow, orcW, h1]
    refine ⟨kw _ _ _, fun _ => kw _ _ _, ?_⟩
    clear kw
    rcases c with ⟨ki, it, fr, to, re, n, a, b⟩
    simp only at h1
    rw [Bool.eq_iff_iff]
    simp [validC, usedC, kindB, isItemC, isTimeC, wi, h1]
    omega
  · by_cases h2 : c.ki = 2
    · simp [sc183, rs183, clRow, orcW, h2]
      refine ⟨kw _ _ _, fun _ => kw _ _ _, ?_⟩
      clear kw
      rcases c with ⟨ki, it, fr, to, re, n, a, b⟩
      simp only at h2
      rw [Bool.eq_iff_iff]
      simp [validC, usedC, kindB, isItemC, isTimeC, wi, h2]
      omega
    · by_cases h3 : c.ki = 3
      · simp [sc183, rs183, clRow, orcW, h3]
        refine ⟨kw _ _ _, fun _ => kw _ _ _, fun _ _ => kw _ _ _, ?_⟩
        clear kw
        rcases c with ⟨ki, it, fr, to, re, n, a, b⟩
        simp only at h3
        rw [Bool.eq_iff_iff]
        simp [validC, usedC, kindB, isItemC, isTimeC, wi, h3]
        omega
      · by_cases h4 : c.ki = 4
        · simp [sc183, rs183, clRow, orcW, h4]
          refine ⟨kw _ _ _, fun _ => kw _ _ _, fun _ _ => kw _ _ _, ?_⟩
          clear kw
          rcases c with ⟨ki, it, fr, to, re, n, a, b⟩
          simp only at h4
          rw [Bool.eq_iff_iff]
          simp [validC, usedC, kindB, isItemC, isTimeC, wi, h4]
          omega
        · by_cases h5 : c.ki = 5
          · simp [sc183, rs183, clRow, orcW, h5]
            refine ⟨kw _ _ _, fun _ => kw _ _ _, kw _ _ _, fun _ => kw _ _ _, fun _ _ _ => kw _ _ _, ?_⟩
            clear kw
            rcases c with ⟨ki, it, fr, to, re, n, a, b⟩
            simp only at h5
            rw [Bool.eq_iff_iff]
            simp [validC, usedC, kindB, isItemC, isTimeC, wi, h5]
            omega
          · by_cases h6 : c.ki = 6
            · simp [sc183, rs183, clRow, orcW, h6]
              refine ⟨kw _ _ _, fun _ => kw _ _ _, kw _ _ _, fun _ => kw _ _ _, fun _ _ _ _ _ => kw _ _ _, ?_⟩
              clear kw
              rcases c with ⟨ki, it, fr, to, re, n, a, b⟩
              simp only at h6
              rw [Bool.eq_iff_iff]
              simp [validC, usedC, kindB, isItemC, isTimeC, wi, h6]
              omega
            · have hv : validC c = false := by simp [validC, kindB, h1, h2, h3, h4, h5, h6]
              rw [hv]
              simp [sc183, rs183, clRow, orcW, h1, h2, h3, h4, h5, h6]
              exact ⟨kw _ _ _, fun _ => kw _ _ _⟩

def has6 (s r : Int) : Bool := if 0 ≤ r ∧ r < 8 then decide ((s / 2 ^ r.toNat) % 2 = 1) else false
def InvH (s r : Int) (f : Nat → AV) (mm : AM) : Prop := ∃ (i : Nat), f 5 = I i ∧ i ≤ 8 ∧ f 0 = I (s / 2 ^ i) ∧ (∀ j : Nat, j < i → (j : Int) ≠ r) ∧ mm = ⟨[], [], fun _ => .gone, 0⟩
set_option maxRecDepth 100000 in
theorem has6_pure (s r : Int) (hs : 0 ≤ s ∧ s < 256) : Pure Tryz.prog gl0 211 [I s, I r] (.bool (has6 s r)) := by
  refine pureE code211 (fun _ _ _ => .junk) (by simp) ?_
  simp [sc211]
  refine vc_loopE w211_0 (InvH s r) (fun f _ => 8 - (numOf (f 5)).toNat) ?_ ?_
  · exact ⟨0, by simp, by omega, by simp, fun j h => by omega, rfl⟩
  · rintro f mm ⟨i, h5, hi, h0, hne, rfl⟩
    rcases Nat.lt_or_ge i 8 with hlt | hge
    · have hilt : (i : Int) < 8 := by omega
      have hw : IntKind.i64.wrap ((i : Int) + 1) = ((i + 1 : Nat) : Int) := by rw [wrap_in] <;> omega
      have q0 : 0 ≤ s / 2 ^ i := Int.ediv_nonneg hs.1 (Int.le_of_lt (Int.pow_pos (by omega)))
      have q1 : s / 2 ^ i ≤ s := Int.ediv_le_self _ hs.1
      have q2 : s / 2 ^ i / 2 = s / 2 ^ (i + 1) := by rw [Int.ediv_ediv_of_nonneg (Int.le_of_lt (Int.pow_pos (by omega))), Int.pow_succ]
      by_cases c : (i : Int) = r
      · have hh : has6 s r = decide ((s / 2 ^ i) % 2 = 1) := by
          rw [has6, if_pos (by omega), ← c]; simp
        have q3 : (s / 2 ^ i).tmod 2 = (s / 2 ^ i) % 2 := Int.tmod_eq_emod_of_nonneg q0
        rw [hh]
        generalize s / 2 ^ i = v at *
        have c8 : r < 8 := by omega
        simp [h5, h0, w211_0, hlt, hilt, c, c8, rs211, q3]
        rw [Bool.eq_iff_iff]; simp
      · have q4 : (s / 2 ^ i).tdiv 2 = s / 2 ^ (i + 1) := by rw [Int.tdiv_eq_ediv_of_nonneg q0, q2]
        have hw2 : IntKind.i64.wrap (s / 2 ^ (i + 1)) = s / 2 ^ (i + 1) := by rw [← q2, wrap_in] <;> omega
        simp [h5, h0, w211_0, hlt, hilt, c, hw, q4, hw2]
        refine ⟨ag ?_, ⟨i + 1, by simp, by omega, by simp, ?_, rfl⟩, by omega⟩
        · repeat (first | exact agree_refl _ _ | refine agree_cons _ rfl ?_)
        · intro j hj
          rcases Nat.lt_or_ge j i with h | h
          · exact hne j h
          · obtain rfl : j = i := by omega
            exact c
    · obtain rfl : i = 8 := by omega
      have hh : has6 s r = false := by
        rw [has6, if_neg]
        rintro ⟨h1, h2⟩
        exact hne r.toNat (by omega) (by omega)
      simp [h5, h0, w211_0, rs211, hh]

def cntK (c : Cl) (k item region : Int) : Bool := decide (c.ki = k) && (validC c && (decide (c.it = item) && has6 c.re region))
theorem validC_re {c : Cl} (h : validC c = true) : 0 ≤ c.re ∧ c.re < 256 := by
  rcases c with ⟨ki, it, fr, to, re, n, a, b⟩
  simp only [validC, Bool.and_eq_true, decide_eq_true_eq] at h
  obtain ⟨h1, h2⟩ := h
  unfold kindB at h2
  unfold usedC at h1
  simp only at h1 h2
  split at h2
  · simp [isItemC, wi] at h2; simp only; omega
  · split at h2
    · simp [isItemC, wi] at h2; simp only; omega
    · split at h2
      · simp [isItemC, wi] at h2; simp only; omega
      · split at h2
        · rename_i k1 k2 k3 k4
          rw [if_neg k1, if_neg (by omega), if_pos k4] at h1
          simp at h1; simp only; omega
        · split at h2
          · rename_i k1 k2 k3 k4 k5
            rw [if_neg k1, if_neg (by omega), if_neg k4, if_pos k5] at h1
            simp at h1; simp only; omega
          · cases h2
def orcC6 (c : Cl) (region : Int) : Nat → FuncId → List AV → AV := fun _ f _ => if f = 183 then .bool (validC c) else .bool (has6 c.re region)
set_option maxRecDepth 100000 in
theorem counts_pure (c : Cl) (k item region : Int) : Pure Tryz.prog gl0 180 [.agg (clRow c), I k, I item, I region] (.bool (cntK c k item region)) := by
  have k1 := valid6_pure c
  refine pureE code180 (orcC6 c region) (by simp) ?_
  by_cases h1 : c.ki = k
  · cases hv : validC c with
    | false =>
      rw [hv] at k1
      simp [sc180, rs180, clRow, orcC6, h1, hv, cntK]
      simp only [clRow, h1] at k1
      exact k1
    | true =>
      rw [hv] at k1
      have k2 := has6_pure c.re region (validC_re hv)
      by_cases h2 : c.it = item
      · simp [sc180, rs180, clRow, orcC6, h1, hv, h2, cntK]
        simp only [clRow, h1, h2] at k1
        exact ⟨k1, k2⟩
      · simp [sc180, rs180, clRow, orcC6, h1, hv, h2, cntK]
        simp only [clRow, h1] at k1
        exact k1
  · simp [sc180, rs180, clRow, orcC6, h1, cntK]
end Go.Proofs.YtdebhhpklhbihaaGreatDoor
