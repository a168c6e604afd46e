/-
  OWN WORK. Contracts: onairref03 (the reference's timecode).
-/
import Derived.Test.YtdebhhpklhbihaaGreatDoorG5SeB
set_option linter.unusedVariables false
set_option linter.unusedSimpArgs false
namespace Go.Proofs.YtdebhhpklhbihaaGreatDoor
open Go Go.Abs

def rtRow (x : Int × Int × Int × Int) : List AV := [I x.1, I x.2.1, I x.2.2.1, I x.2.2.2]
theorem rtab_pure : Pure Tryz.prog gl0 210 [] (.sl .full (rtsL.map rtRow)) := by
  refine pureE code210 (fun _ _ _ => .junk) (by simp) ?_
  simp [sc210, rs210, rtsL, rtRow]
theorem rtsL_get : ∀ i : Nat, i < 8 → ∃ x, rtsL[i]? = some x ∧ rowN (rtsL.map rtRow) i = [I x.1, I x.2.1, I x.2.2.1, I x.2.2.2]
  | 0, _ => ⟨_, rfl, rfl⟩
  | 1, _ => ⟨_, rfl, rfl⟩
  | 2, _ => ⟨_, rfl, rfl⟩
  | 3, _ => ⟨_, rfl, rfl⟩
  | 4, _ => ⟨_, rfl, rfl⟩
  | 5, _ => ⟨_, rfl, rfl⟩
  | 6, _ => ⟨_, rfl, rfl⟩
  | 7, _ => ⟨_, rfl, rfl⟩
  | n + 8, h => by omega

def InvF3 (nu de : Int) (f : Nat → AV) (m : AM) : Prop := ∃ (i : Nat), f 5 = I i ∧ i ≤ 8 ∧ fndR nu de (rtsL.drop i) = fndR nu de rtsL ∧ m = ⟨[[I nu, I de], [I 0, I 0, I 0, I 0]], [], fun _ => .gone, 0⟩
set_option maxRecDepth 100000 in
set_option maxHeartbeats 2000000 in
theorem rfind_pure (nu de : Int) : Pure Tryz.prog gl0 179 [.agg [I nu, I de]] (rtAV (fndR nu de rtsL)) := by
  have k := rtab_pure
  have hlen : rtsL.length = 8 := rfl
  refine pureE code179 (fun _ _ _ => .sl .full (rtsL.map rtRow)) (by simp) ?_
  simp [sc179]
  refine ⟨k, ?_⟩
  clear k
  refine vc_loopE w179_0 (InvF3 nu de) (fun f _ => 8 - (numOf (f 5)).toNat) ?_ ?_
  · exact ⟨0, by simp, by omega, rfl, rfl⟩
  · rintro f m ⟨i, h5, hi, hf, rfl⟩
    by_cases h8 : i = 8
    · subst h8
      have : fndR nu de (rtsL.drop 8) = none := rfl
      rw [this] at hf
      simp [h5, w179_0, rs179, ← hf, rtAV, hlen]
    · have hlt : i < 8 := by omega
      obtain ⟨x, hx, hrow⟩ := rtsL_get i hlt
      have hilt : (i : Int) < 8 := by omega
      have hw : IntKind.i64.wrap ((i : Int) + 1) = ((i + 1 : Nat) : Int) := by rw [wrap_in] <;> omega
      rw [drop_cons hx, fndR] at hf
      by_cases hc : x.1 = nu ∧ x.2.1 = de
      · rw [if_pos hc] at hf
        simp [h5, hlt, hilt, hlen, hrow, hc.1, hc.2, w179_0, rs179, ← hf, rtAV]
      · rw [if_neg hc] at hf
        by_cases hc1 : x.1 = nu
        · have hc2 : ¬ x.2.1 = de := fun h => hc ⟨hc1, h⟩
          simp [h5, hlt, hilt, hlen, hrow, hc1, hc2, w179_0, hw]
          refine ⟨ag ?_, ⟨i + 1, by simp, by omega, hf, rfl⟩, by omega⟩
          repeat (first | exact agree_refl _ _ | refine agree_cons _ rfl ?_)
        · simp [h5, hlt, hilt, hlen, hrow, hc1, w179_0, hw]
          refine ⟨ag ?_, ⟨i + 1, by simp, by omega, hf, rfl⟩, by omega⟩
          repeat (first | exact agree_refl _ _ | refine agree_cons _ rfl ?_)

theorem rvalid3_pure (nu de : Int) : Pure Tryz.prog gl0 124 [.agg [I nu, I de]] (.bool (validR nu de)) := by
  have h := rfind_pure nu de
  unfold validR
  refine pureE code124 (fun _ _ _ => rtAV (fndR nu de rtsL)) (by simp) ?_
  cases hf : fndR nu de rtsL with
  | none => rw [hf] at h; simp only [rtAV] at h; simp [sc124, rs124, rtAV]; exact h
  | some x => rw [hf] at h; simp only [rtAV] at h; simp [sc124, rs124, rtAV]; exact h
theorem rframe_pure (f : Int) : Pure Tryz.prog gl0 127 [I f] (.bool (decide (0 ≤ f ∧ f ≤ 100000000))) := by
  refine pureE code127 (fun _ _ _ => .junk) (by simp) ?_
  by_cases h1 : 0 ≤ f <;> by_cases h2 : f ≤ 100000000 <;> simp [sc127, rs127, h1, h2]

set_option maxRecDepth 100000 in
theorem rsecs_pure (nu de f : Int) : Pure Tryz.prog gl0 78 [.agg [I nu, I de], I f] (I (secR nu de f)) := by
  have h1 := rvalid3_pure nu de
  have h2 := rframe_pure f
  refine pureE code78 (fun _ g _ => if g = 124 then .bool (validR nu de) else .bool (decide (0 ≤ f ∧ f ≤ 100000000))) (by simp) ?_
  cases hv : validR nu de with
  | false => rw [hv] at h1; simp [sc78, rs78, hv, secR]; exact h1
  | true =>
    rw [hv] at h1
    by_cases hf : 0 ≤ f ∧ f ≤ 100000000
    · obtain ⟨b1, b2, b3, b4, _⟩ := validR_bd hv
      obtain ⟨p1, p2⟩ := prod_bd (x := f) (y := de) (a := 100000000) (b := 1001) ⟨hf.1, hf.2⟩ ⟨by omega, by omega⟩
      have w1 : IntKind.i64.wrap (f * de) = f * de := by rw [wrap_in] <;> omega
      obtain ⟨d1, d2⟩ := tdiv_bd (x := f * de) (y := nu) p1 (by omega)
      have w2 : IntKind.i64.wrap ((f * de).tdiv nu) = (f * de).tdiv nu := by rw [wrap_in] <;> omega
      have hnz : ¬ nu = 0 := by omega
      simp [hf] at h2
      simp [sc78, rs78, hv, secR, hf, w1, w2, hnz]
      exact ⟨h1, h2⟩
    · simp only [hf, decide_false] at h2
      simp [sc78, rs78, hv, secR, hf]
      exact ⟨h1, h2⟩
theorem rup_pure (a b : Int) (ha : 0 ≤ a ∧ a ≤ 1000000000000000) (hb : 1 ≤ b ∧ b ≤ 1001) : Pure Tryz.prog gl0 126 [I a, I b] (I ((a + b - 1).tdiv b)) := by
  refine pureE code126 (fun _ _ _ => .junk) (by simp) ?_
  have w1 : IntKind.i64.wrap (a + b) = a + b := by rw [wrap_in] <;> omega
  have w2 : IntKind.i64.wrap (a + b - 1) = a + b - 1 := by rw [wrap_in] <;> omega
  obtain ⟨d1, d2⟩ := tdiv_bd (x := a + b - 1) (y := b) (by omega) (by omega)
  have w3 : IntKind.i64.wrap ((a + b - 1).tdiv b) = (a + b - 1).tdiv b := by rw [wrap_in] <;> omega
  have hnz : ¬ b = 0 := by omega
  simp [sc126, rs126, w1, w2, w3, hnz]
set_option maxRecDepth 100000 in
theorem rfrms_pure (nu de s : Int) : Pure Tryz.prog gl0 77 [.agg [I nu, I de], I s] (I (frmR nu de s)) := by
  have h1 := rvalid3_pure nu de
  refine pureE code77 (fun _ g _ => if g = 124 then .bool (validR nu de) else I (frmR nu de s)) (by simp) ?_
  cases hv : validR nu de with
  | false => rw [hv] at h1; simp [sc77, rs77, hv, frmR]; exact h1
  | true =>
    rw [hv] at h1
    by_cases hs0 : s < 0
    · have : ¬ (0 ≤ s ∧ s ≤ 10000000000) := by omega
      simp [sc77, rs77, hv, frmR, hs0, this]; exact h1
    · by_cases hs1 : 10000000000 < s
      · have : ¬ (0 ≤ s ∧ s ≤ 10000000000) := by omega
        simp [sc77, rs77, hv, frmR, hs0, hs1, this]; exact h1
      · have hs : 0 ≤ s ∧ s ≤ 10000000000 := by omega
        obtain ⟨b1, b2, b3, b4, _⟩ := validR_bd hv
        obtain ⟨p1, p2⟩ := prod_bd (x := s) (y := nu) (a := 10000000000) (b := 60000) ⟨hs.1, hs.2⟩ ⟨by omega, by omega⟩
        have w1 : IntKind.i64.wrap (s * nu) = s * nu := by rw [wrap_in] <;> omega
        have h2 := rup_pure (s * nu) de ⟨p1, by omega⟩ ⟨by omega, by omega⟩
        simp [sc77, rs77, hv, frmR, hs0, hs1, hs, w1]
        exact ⟨h1, h2⟩
end Go.Proofs.YtdebhhpklhbihaaGreatDoor
