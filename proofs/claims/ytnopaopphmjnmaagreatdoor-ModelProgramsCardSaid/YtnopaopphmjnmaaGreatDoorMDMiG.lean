import Derived.Test.YtnopaopphmjnmaaGreatDoorCards
import Derived.Test.YtnopaopphmjnmaaGreatDoorTie
import Derived.WalkKit
import Derived.ProofKit
import Derived.OpenShut
import Derived.Deep.DeepHandedRow
import Derived.Lib.LaidTab
set_option linter.all false
namespace Go.Proofs.YtnopaopphmjnmaaGreatDoor.law10
open Go Go.RowKit
def fGo:false=Rows.modelProgramsRow.goesBy Tryz.pinned.checked.prog:=by kernel_rfl
def fWf:Rows.modelProgramsRow.wfByText (OpenSpec.ofChange Rows.modelProgramsSpec)=true:=by kernel_rfl
def fMa:Tryz.pinned.checked.prog.mainIs=some (Rows.modelProgramsCard.stood.harness.1,Rows.modelProgramsCard.stood.harness.2.toList):=by kernel_rfl
end Go.Proofs.YtnopaopphmjnmaaGreatDoor.law10
