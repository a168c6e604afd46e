/-
  OWN WORK. Contracts: rundown.sound, rundown.Valid.
-/
import Derived.Test.YtdebhhpklhbihaaGreatDoorG5RhA
set_option linter.unusedVariables false
set_option linter.unusedSimpArgs false
namespace Go.Proofs.YtdebhhpklhbihaaGreatDoor
open Go Go.Abs

end Go.Proofs.YtdebhhpklhbihaaGreatDoor
