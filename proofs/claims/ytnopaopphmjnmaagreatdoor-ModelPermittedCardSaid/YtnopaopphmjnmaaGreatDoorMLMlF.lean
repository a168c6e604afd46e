import Derived.Test.YtnopaopphmjnmaaGreatDoorCards
import Derived.Test.YtnopaopphmjnmaaGreatDoorTie
import Derived.WalkKit
import Derived.ProofKit
import Derived.OpenShut
import Derived.Deep.DeepHandedRow
import Derived.Lib.LaidTab
set_option linter.all false
namespace Go.Proofs.YtnopaopphmjnmaaGreatDoor.law5
open Go Go.RowKit
def fIn:Tryz.pinned.checked.prog.inPlace 5=Rows.modelPermittedRow.inPlace:=by kernel_rfl
def fUn:Tryz.pinned.checked.prog.unfollowed 5=Rows.modelPermittedRow.unfollowed:=by kernel_rfl
def fRe:Tryz.pinned.checked.prog.recurses 5=Rows.modelPermittedRow.recurses:=by
 unfold Program.recurses;rw[fUn];exact Bool.true_or _
def fNa:Tryz.pinned.checked.prog.varsNamed 5=Rows.modelPermittedRow.named:=by kernel_rfl
def LW:joinedFacts Tryz.pinned.checked.prog 5 Tryz.f5 (OpenSpec.ofChange Rows.modelPermittedSpec).bare Rows.modelPermittedRow=true:=by
 unfold joinedFacts;rw[fIn,fUn,fRe,fNa];kernel_rfl
end Go.Proofs.YtnopaopphmjnmaaGreatDoor.law5
