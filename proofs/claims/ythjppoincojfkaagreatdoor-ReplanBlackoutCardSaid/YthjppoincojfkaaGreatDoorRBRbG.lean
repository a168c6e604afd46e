import Derived.Test.YthjppoincojfkaaGreatDoorCards
import Derived.Test.YthjppoincojfkaaGreatDoorTie
import Derived.WalkKit
import Derived.ProofKit
import Derived.OpenShut
import Derived.Deep.DeepHandedRow
import Derived.Lib.LaidTab
set_option linter.all false
namespace Go.Proofs.YthjppoincojfkaaGreatDoor.law9
open Go Go.RowKit
def fGo:false=Rows.replanBlackoutRow.goesBy Tryz.pinned.checked.prog:=by kernel_rfl
def fWf:Rows.replanBlackoutRow.wfByText (OpenSpec.ofChange Rows.replanBlackoutSpec)=true:=by kernel_rfl
def fMa:Tryz.pinned.checked.prog.mainIs=some (Rows.replanBlackoutCard.stood.harness.1,Rows.replanBlackoutCard.stood.harness.2.toList):=by kernel_rfl
end Go.Proofs.YthjppoincojfkaaGreatDoor.law9
