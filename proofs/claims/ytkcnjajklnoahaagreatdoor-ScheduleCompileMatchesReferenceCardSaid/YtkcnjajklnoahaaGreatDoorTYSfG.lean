import Derived.Test.YtkcnjajklnoahaaGreatDoorTYScR
set_option linter.unusedVariables false
set_option linter.unusedSimpArgs false
namespace Go.Proofs.YtkcnjajklnoahaaGreatDoor
open Go Go.Abs
end Go.Proofs.YtkcnjajklnoahaaGreatDoor
