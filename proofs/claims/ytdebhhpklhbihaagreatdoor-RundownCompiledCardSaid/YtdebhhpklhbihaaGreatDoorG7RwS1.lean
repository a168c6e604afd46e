/-
  OWN WORK. The example's rundown, by computation.
-/
import Derived.Test.YtdebhhpklhbihaaGreatDoorG7RwS0
set_option linter.unusedVariables false
set_option linter.unusedSimpArgs false
namespace Go.Proofs.YtdebhhpklhbihaaGreatDoor
open Go Go.Abs

theorem ex_build1 : Pure Tryz.prog gl0 13 [exPl, .sl .full [[I 5, I 35]], I 0] (.sl .ro [exA, exB, exC, exD]) := pure_run tab_ok lvl 3000 4 (by kernel_rfl) rfl
end Go.Proofs.YtdebhhpklhbihaaGreatDoor
