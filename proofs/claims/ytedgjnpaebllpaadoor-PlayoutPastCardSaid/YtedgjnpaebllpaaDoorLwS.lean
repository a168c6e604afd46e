/-
  OWN WORK. The fixed examples of the law: 'sane' returns true, by computation.
-/
import Derived.Test.YtedgjnpaebllpaaDoorLwA
set_option linter.unusedVariables false
set_option linter.unusedSimpArgs false
namespace Go.Proofs.YtedgjnpaebllpaaDoor
open Go Go.Abs

def lvlL : List (Nat × Nat) := [(10, 0), (29, 0), (36, 0), (61, 0), (28, 0), (12, 0), (13, 0), (33, 0), (17, 1), (30, 1), (22, 1), (15, 2), (14, 2), (8, 3), (23, 3)]
def lvlF : List (Nat × Nat) → Nat → Nat
  | [], _ => 100
  | (f, k) :: r, g => bif Nat.beq f g then k else lvlF r g
def lvl : FuncId → Nat := fun f => lvlF lvlL f

theorem sane_pure : Pure Tryd.prog gl0 8 [] (.bool true) := pure_run tab_ok lvl 3000 3 (by kernel_rfl) rfl
end Go.Proofs.YtedgjnpaebllpaaDoor
