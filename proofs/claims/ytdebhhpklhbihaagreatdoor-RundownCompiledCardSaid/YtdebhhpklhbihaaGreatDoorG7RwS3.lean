/-
  OWN WORK. The example's rundown is valid, by computation.
-/
import Derived.Test.YtdebhhpklhbihaaGreatDoorG7RwS0
set_option linter.unusedVariables false
set_option linter.unusedSimpArgs false
namespace Go.Proofs.YtdebhhpklhbihaaGreatDoor
open Go Go.Abs

theorem ex_valid1 : Pure Tryz.prog gl0 14 [exPl, .sl .ro [exA, exB, exC, exD]] (.bool true) := pure_run tab_ok lvl 3000 4 (by kernel_rfl) rfl
end Go.Proofs.YtdebhhpklhbihaaGreatDoor
