import Derived.Test.YthjppoincojfkaaGreatDoorCards
import Derived.Test.YthjppoincojfkaaGreatDoorTie
import Derived.WalkKit
import Derived.ProofKit
import Derived.OpenShut
import Derived.Deep.DeepHandedRow
import Derived.Lib.LaidTab
set_option linter.all false
namespace Go.Proofs.YthjppoincojfkaaGreatDoor.law6
open Go Go.RowKit
def fGo:false=Rows.replanOnceRow.goesBy Tryz.pinned.checked.prog:=by kernel_rfl
def fWf:Rows.replanOnceRow.wfByText (OpenSpec.ofChange Rows.replanOnceSpec)=true:=by kernel_rfl
def fMa:Tryz.pinned.checked.prog.mainIs=some (Rows.replanOnceCard.stood.harness.1,Rows.replanOnceCard.stood.harness.2.toList):=by kernel_rfl
end Go.Proofs.YthjppoincojfkaaGreatDoor.law6
