/-
  OWN WORK. The plain law of PlayoutSmooth: one more frame is one step.
-/
import Derived.Test.YtedgjnpaebllpaaGreatDoorLwI
set_option linter.unusedVariables false
set_option linter.unusedSimpArgs false
namespace Go.Proofs.YtedgjnpaebllpaaGreatDoor
open Go Go.Abs

def Chain : Int → List Evt → Prop
  | _, [] => True
  | t, e :: r => e.st = t ∧ 0 ≤ e.fr ∧ Chain (t + e.fr) r

theorem chain_early (f : Int) : ∀ (l : List Evt) (t : Int), Chain t l → f < t → begs f l = [] ∧ fndE f l = none
  | [], _, _, _ => ⟨rfl, rfl⟩
  | e :: r, t, ⟨h1, h2, h3⟩, h => by
    have ih := chain_early f r (t + e.fr) h3 (by omega)
    refine ⟨?_, ?_⟩
    · rw [begs_no f e r (by omega)]; exact ih.1
    · have : onB f e = false := by simp [onB]; omega
      simp only [fndE, this, Bool.false_eq_true, if_false]; exact ih.2

theorem ramp_succ (t : Int) : ∀ (n : Nat) (g : Int), ramp t (n + 1) g = nxt (ramp t n g) t
  | 0, _ => rfl
  | n + 1, g => by rw [ramp, ramp_succ t n (nxt g t)]; rfl

theorem step_law (L : List Asset) (f : Int) : ∀ (l : List Evt) (t g : Int), Chain t l → gainF L (begs (f + 1) l) g = match fndE (f + 1) l with
    | none => gainF L (begs f l) g
    | some e => nxt (gainF L (begs f l) g) (tgtI L e.it)
  | [], _, _, _ => rfl
  | e :: r, t, g, ⟨h1, h2, h3⟩ => by
    by_cases h0 : e.fr = 0
    · have hb : onB (f + 1) e = false := by simp [onB]; omega
      rw [begs_no (f + 1) e r (by omega), begs_no f e r (by omega)]
      simp only [fndE, hb, Bool.false_eq_true, if_false]
      exact step_law L f r _ g h3
    · by_cases c1 : f + 1 < t
      · have e1 := chain_early (f + 1) (e :: r) t ⟨h1, h2, h3⟩ c1
        have e2 := chain_early f (e :: r) t ⟨h1, h2, h3⟩ (by omega)
        rw [e1.1, e1.2, e2.1]
      · by_cases c2 : f + 1 = t
        · have hb : onB (f + 1) e = true := by simp [onB]; omega
          have e2 := chain_early f (e :: r) t ⟨h1, h2, h3⟩ (by omega)
          have e3 := chain_early (f + 1) r _ h3 (by omega)
          rw [begs_yes (f + 1) e r (by omega) (by omega), e3.1, e2.1]
          simp only [fndE, hb, if_true, gainF]
          have : frs (f + 1) e = 1 := by unfold frs; split <;> omega
          rw [this]; rfl
        · by_cases c3 : f + 1 < t + e.fr
          · have hb : onB (f + 1) e = true := by simp [onB]; omega
            have e2 := chain_early f r _ h3 (by omega)
            have e3 := chain_early (f + 1) r _ h3 (by omega)
            rw [begs_yes (f + 1) e r (by omega) (by omega), begs_yes f e r (by omega) (by omega), e3.1, e2.1]
            simp only [fndE, hb, if_true, gainF]
            have k1 : (frs (f + 1) e).toNat = (f - t + 1).toNat + 1 := by unfold frs; split <;> omega
            have k2 : (frs f e).toNat = (f - t + 1).toNat := by unfold frs; split <;> omega
            rw [k1, k2, ramp_succ]
          · have hb : onB (f + 1) e = false := by simp [onB]; omega
            rw [begs_yes (f + 1) e r (by omega) (by omega), begs_yes f e r (by omega) (by omega)]
            simp only [fndE, hb, Bool.false_eq_true, if_false, gainF]
            have k1 : frs (f + 1) e = e.fr := by unfold frs; split <;> omega
            have k2 : frs f e = e.fr := by unfold frs; split <;> omega
            rw [k1, k2]
            exact step_law L f r _ _ h3

theorem nxt_step (a t : Int) (h : -20 ≤ 0) : nxt a t - a ≤ 20 ∧ a - nxt a t ≤ 20 := by
  unfold nxt; split
  · omega
  · split <;> omega
end Go.Proofs.YtedgjnpaebllpaaGreatDoor
