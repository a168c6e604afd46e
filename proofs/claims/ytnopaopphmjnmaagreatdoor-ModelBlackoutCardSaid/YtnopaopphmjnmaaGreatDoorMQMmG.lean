import Derived.Test.YtnopaopphmjnmaaGreatDoorCards
import Derived.Test.YtnopaopphmjnmaaGreatDoorTie
import Derived.WalkKit
import Derived.ProofKit
import Derived.OpenShut
import Derived.Deep.DeepHandedRow
import Derived.Lib.LaidTab
set_option linter.all false
namespace Go.Proofs.YtnopaopphmjnmaaGreatDoor.law9
open Go Go.RowKit
def fGo:false=Rows.modelBlackoutRow.goesBy Tryz.pinned.checked.prog:=by kernel_rfl
def fWf:Rows.modelBlackoutRow.wfByText (OpenSpec.ofChange Rows.modelBlackoutSpec)=true:=by kernel_rfl
def fMa:Tryz.pinned.checked.prog.mainIs=some (Rows.modelBlackoutCard.stood.harness.1,Rows.modelBlackoutCard.stood.harness.2.toList):=by kernel_rfl
end Go.Proofs.YtnopaopphmjnmaaGreatDoor.law9
