/-
  OWN WORK. The contracts of the comparison of units.
-/
import Derived.Test.YtedgjnpaebllpaaGreatDoorLwA
set_option linter.unusedVariables false
set_option linter.unusedSimpArgs false
namespace Go.Proofs.YtedgjnpaebllpaaGreatDoor
open Go Go.Abs

set_option maxRecDepth 100000 in
theorem equal56 (rt : Rt) (b : Bool) : Pure Tryz.prog gl0 33 [.sl rt (if b = true then [[I 1, I 8]] else []), .sl rt (if b = true then [[I 1, I 8]] else [])] (.bool true) := by
  refine pureE code33 (fun _ _ _ => .junk) (by simp) ?_
  cases b with
  | false =>
    simp [sc33, rs33]
    refine vc_loopE [4, 5, 13, 14, 15, 16, 17, 18, 19, 20, 21, 22, 23, 24, 25] (fun f m => f 13 = I 0 ∧ m = ⟨[], [], fun _ => .gone, 0⟩) (fun _ _ => 0) ⟨by simp, rfl⟩ ?_
    rintro f m ⟨h, rfl⟩
    simp [h]
  | true =>
    simp [sc33, rs33]
    refine vc_loopE [4, 5, 13, 14, 15, 16, 17, 18, 19, 20, 21, 22, 23, 24, 25] (fun f m => (f 13 = I 0 ∨ f 13 = I 1) ∧ m = ⟨[], [], fun _ => .gone, 0⟩) (fun f _ => 1 - (numOf (f 13)).toNat) ⟨.inl (by simp), rfl⟩ ?_
    have w11 : IntKind.i64.wrap 1 = 1 := by rw [wrap_in] <;> omega
    rintro f m ⟨h | h, rfl⟩
    · simp [h, w11]
      refine ag ?_
      repeat (first | exact agree_refl _ _ | refine agree_cons _ rfl ?_)
    · simp [h]

set_option maxRecDepth 100000 in
theorem same43 (os of : Int) (rt : Rt) (b : Bool) (hrt : ok1 (.sl rt (if b = true then [[I 1, I 8]] else [])) = true) : Pure Tryz.prog gl0 17 [.agg [I os, I of, .sl rt (if b = true then [[I 1, I 8]] else [])], .agg [I os, I of, .sl rt (if b = true then [[I 1, I 8]] else [])]] (.bool true) := by
  have h := equal56 rt b
  generalize hal : (AV.sl rt (if b = true then [[I 1, I 8]] else [])) = al at *
  have c6 : ∀ m, cvn m 6 al = al := fun m => cvn_ok1 m 5 hrt
  have p6 : hasP 6 al = false := hasP_ok1 5 hrt
  refine pureE code17 (fun _ _ _ => .bool true) (by simp) ?_
  simp [sc17, rs17, isCell_ok1 hrt, c6, p6]
  exact h

set_option maxRecDepth 100000 in
set_option maxHeartbeats 2000000 in
/-- Two units that agree are found equal. -/
theorem same23 (u : Unit) (rt : Rt) (b : Bool) (hal : u.al = .sl rt (if b = true then [[I 1, I 8]] else [])) (hrt : ok1 u.al = true) : Pure Tryz.prog gl0 8 [.agg (unitRow u), .agg (unitRow u)] (.bool true) := by
  rw [hal] at hrt
  have h := same43 u.os u.of rt b hrt
  rw [unitRow, hal]
  generalize hal : (AV.sl rt (if b = true then [[I 1, I 8]] else [])) = al at *
  have c5 : ∀ m, cvn m 5 al = al := fun m => cvn_ok1 m 4 hrt
  have p5 : hasP 5 al = false := hasP_ok1 4 hrt
  refine pureE code8 (fun _ _ _ => .bool true) (by simp) ?_
  simp [sc8, rs8, isCell_ok1 hrt, c5, p5]
  exact h
end Go.Proofs.YtedgjnpaebllpaaGreatDoor
