/-
  OWN WORK. The fixed examples of the law: 'sane' returns true, by computation.
-/
import Derived.Test.YtedgjnpaebllpaaGreatDoorLwA
set_option linter.unusedVariables false
set_option linter.unusedSimpArgs false
namespace Go.Proofs.YtedgjnpaebllpaaGreatDoor
open Go Go.Abs

def lvlL : List (Nat × Nat) := [(7, 0), (21, 0), (29, 0), (66, 0), (20, 0), (15, 0), (36, 0), (11, 1), (22, 1), (16, 1), (9, 2), (5, 2), (4, 3), (8, 3)]
def lvlF : List (Nat × Nat) → Nat → Nat
  | [], _ => 100
  | (f, k) :: r, g => bif Nat.beq f g then k else lvlF r g
def lvl : FuncId → Nat := fun f => lvlF lvlL f

theorem sane_pure : Pure Tryz.prog gl0 4 [] (.bool true) := pure_run tab_ok lvl 3000 3 (by kernel_rfl) rfl
end Go.Proofs.YtedgjnpaebllpaaGreatDoor
