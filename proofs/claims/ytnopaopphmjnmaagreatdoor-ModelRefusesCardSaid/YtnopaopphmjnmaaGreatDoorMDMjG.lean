import Derived.Test.YtnopaopphmjnmaaGreatDoorCards
import Derived.Test.YtnopaopphmjnmaaGreatDoorTie
import Derived.WalkKit
import Derived.ProofKit
import Derived.OpenShut
import Derived.Deep.DeepHandedRow
import Derived.Lib.LaidTab
set_option linter.all false
namespace Go.Proofs.YtnopaopphmjnmaaGreatDoor.law8
open Go Go.RowKit
def fGo:false=Rows.modelRefusesRow.goesBy Tryz.pinned.checked.prog:=by kernel_rfl
def fWf:Rows.modelRefusesRow.wfByText (OpenSpec.ofChange Rows.modelRefusesSpec)=true:=by kernel_rfl
def fMa:Tryz.pinned.checked.prog.mainIs=some (Rows.modelRefusesCard.stood.harness.1,Rows.modelRefusesCard.stood.harness.2.toList):=by kernel_rfl
end Go.Proofs.YtnopaopphmjnmaaGreatDoor.law8
