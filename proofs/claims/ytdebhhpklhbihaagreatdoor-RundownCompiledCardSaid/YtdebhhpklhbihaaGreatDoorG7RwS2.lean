/-
  OWN WORK. The example's other rundown, by computation.
-/
import Derived.Test.YtdebhhpklhbihaaGreatDoorG7RwS0
set_option linter.unusedVariables false
set_option linter.unusedSimpArgs false
namespace Go.Proofs.YtdebhhpklhbihaaGreatDoor
open Go Go.Abs

def exL2 : List (List AV) := [[I 0, I 1, I 0, I 30, I 0, I 3, .sl .nil []], [I 0, I 1, I 30, I 30, I 0, I 3, .sl .nil []], [I 0, I 1, I 60, I 30, I 0, I 3, .sl .nil []], [I 0, I 1, I 90, I 10, I 0, I 3, .sl .nil []]]
theorem ex_build2 : Pure Tryz.prog gl0 13 [exPl, .sl .full [[I 5, I 70]], I 0] (.sl .ro exL2) := pure_run tab_ok lvl 3000 4 (by kernel_rfl) rfl
end Go.Proofs.YtdebhhpklhbihaaGreatDoor
