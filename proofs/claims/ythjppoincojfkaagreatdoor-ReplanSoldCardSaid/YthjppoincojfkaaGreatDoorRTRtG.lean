import Derived.Test.YthjppoincojfkaaGreatDoorCards
import Derived.Test.YthjppoincojfkaaGreatDoorTie
import Derived.WalkKit
import Derived.ProofKit
import Derived.OpenShut
import Derived.Deep.DeepHandedRow
import Derived.Lib.LaidTab
set_option linter.all false
namespace Go.Proofs.YthjppoincojfkaaGreatDoor.law10
open Go Go.RowKit
def fGo:false=Rows.replanSoldRow.goesBy Tryz.pinned.checked.prog:=by kernel_rfl
def fWf:Rows.replanSoldRow.wfByText (OpenSpec.ofChange Rows.replanSoldSpec)=true:=by kernel_rfl
def fMa:Tryz.pinned.checked.prog.mainIs=some (Rows.replanSoldCard.stood.harness.1,Rows.replanSoldCard.stood.harness.2.toList):=by kernel_rfl
end Go.Proofs.YthjppoincojfkaaGreatDoor.law10
