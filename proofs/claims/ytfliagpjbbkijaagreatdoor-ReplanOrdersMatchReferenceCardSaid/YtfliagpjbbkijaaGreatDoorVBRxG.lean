import Derived.Test.YtfliagpjbbkijaaGreatDoorCards
import Derived.Test.YtfliagpjbbkijaaGreatDoorTie
import Derived.WalkKit
import Derived.ProofKit
import Derived.OpenShut
import Derived.Deep.DeepHandedRow
import Derived.Lib.LaidTab
set_option linter.all false
namespace Go.Proofs.YtfliagpjbbkijaaGreatDoor.law5
open Go Go.RowKit
def fGo:false=Rows.replanOrdersMatchReferenceRow.goesBy Tryz.pinned.checked.prog:=by kernel_rfl
def fWf:Rows.replanOrdersMatchReferenceRow.wfByText (OpenSpec.ofChange Rows.replanOrdersMatchReferenceSpec)=true:=by kernel_rfl
def fMa:Tryz.pinned.checked.prog.mainIs=some (Rows.replanOrdersMatchReferenceCard.stood.harness.1,Rows.replanOrdersMatchReferenceCard.stood.harness.2.toList):=by kernel_rfl
end Go.Proofs.YtfliagpjbbkijaaGreatDoor.law5
