import Derived.Test.YtnopaopphmjnmaaGreatDoorCards
import Derived.Test.YtnopaopphmjnmaaGreatDoorTie
import Derived.WalkKit
import Derived.ProofKit
import Derived.OpenShut
import Derived.Deep.DeepHandedRow
import Derived.Lib.LaidTab
set_option linter.all false
namespace Go.Proofs.YtnopaopphmjnmaaGreatDoor.law5
open Go Go.RowKit
def fGo:false=Rows.modelPermittedRow.goesBy Tryz.pinned.checked.prog:=by kernel_rfl
def fWf:Rows.modelPermittedRow.wfByText (OpenSpec.ofChange Rows.modelPermittedSpec)=true:=by kernel_rfl
def fMa:Tryz.pinned.checked.prog.mainIs=some (Rows.modelPermittedCard.stood.harness.1,Rows.modelPermittedCard.stood.harness.2.toList):=by kernel_rfl
end Go.Proofs.YtnopaopphmjnmaaGreatDoor.law5
