import Derived.Test.YtfliagpjbbkijaaGreatDoorCards
import Derived.Test.YtfliagpjbbkijaaGreatDoorTie
import Derived.WalkKit
import Derived.ProofKit
import Derived.OpenShut
import Derived.Deep.DeepHandedRow
import Derived.Lib.LaidTab
set_option linter.all false
namespace Go.Proofs.YtfliagpjbbkijaaGreatDoor.law4
open Go Go.RowKit
def fGo:false=Rows.replanDecodedAgainRow.goesBy Tryz.pinned.checked.prog:=by kernel_rfl
def fWf:Rows.replanDecodedAgainRow.wfByText (OpenSpec.ofChange Rows.replanDecodedAgainSpec)=true:=by kernel_rfl
def fMa:Tryz.pinned.checked.prog.mainIs=some (Rows.replanDecodedAgainCard.stood.harness.1,Rows.replanDecodedAgainCard.stood.harness.2.toList):=by kernel_rfl
end Go.Proofs.YtfliagpjbbkijaaGreatDoor.law4
