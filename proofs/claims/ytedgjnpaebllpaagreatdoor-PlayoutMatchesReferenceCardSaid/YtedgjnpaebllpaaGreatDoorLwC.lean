/-
  OWN WORK. The law PlayoutGenuineMatchesReference on abstract arguments.
-/
import Derived.Test.YtedgjnpaebllpaaGreatDoorLwB
import Derived.Test.YtedgjnpaebllpaaGreatDoorLwS
set_option linter.unusedVariables false
set_option linter.unusedSimpArgs false
namespace Go.Proofs.YtedgjnpaebllpaaGreatDoor
open Go Go.Abs

def i64 (n : Int) : Prop := -9223372036854775808 ≤ n ∧ n ≤ 9223372036854775807

theorem libs_ok (xs : List Int) (k : Nat) (hk : k ≤ 3) : BigOK (libs xs k) := by
  refine ⟨by simp [libs]; omega, fun a ha => ?_⟩
  simp [libs] at ha
  obtain ⟨j, hj, rfl⟩ := ha
  simp [libA, libPics, nPics]
  omega

@[simp] theorem cvn_lib (m : AM) (L : List Asset) : cvn m 6 (libAV L) = libAV L := rfl
@[simp] theorem hasP_lib (L : List Asset) : hasP 6 (libAV L) = false := rfl
@[simp] theorem isCell_lib (L : List Asset) : isCell (libAV L) = true := rfl
@[simp] theorem cvn_ints (m : AM) (xs : List Int) : cvn m 6 (ints xs) = ints xs := rfl
@[simp] theorem hasP_ints (xs : List Int) : hasP 6 (ints xs) = false := rfl

end Go.Proofs.YtedgjnpaebllpaaGreatDoor
