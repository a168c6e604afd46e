/-
  OWN WORK. Contract: rundown.At on events with any alternatives.
-/
import Derived.Test.YtdebhhpklhbihaaGreatDoorG5MN
set_option linter.unusedVariables false
set_option linter.unusedSimpArgs false
namespace Go.Proofs.YtdebhhpklhbihaaGreatDoor
open Go Go.Abs

end Go.Proofs.YtdebhhpklhbihaaGreatDoor
