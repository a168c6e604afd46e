import Derived.Test.YtnopaopphmjnmaaGreatDoorCards
import Derived.Test.YtnopaopphmjnmaaGreatDoorTie
import Derived.WalkKit
import Derived.ProofKit
import Derived.OpenShut
import Derived.Deep.DeepHandedRow
import Derived.Lib.LaidTab
set_option linter.all false
namespace Go.Proofs.YtnopaopphmjnmaaGreatDoor.law6
open Go Go.RowKit
def fIn:Tryz.pinned.checked.prog.inPlace 6=Rows.modelOneRow.inPlace:=by kernel_rfl
def fUn:Tryz.pinned.checked.prog.unfollowed 6=Rows.modelOneRow.unfollowed:=by kernel_rfl
def fRe:Tryz.pinned.checked.prog.recurses 6=Rows.modelOneRow.recurses:=by
 unfold Program.recurses;rw[fUn];exact Bool.true_or _
def fNa:Tryz.pinned.checked.prog.varsNamed 6=Rows.modelOneRow.named:=by kernel_rfl
def ya:joinedFacts Tryz.pinned.checked.prog 6 Tryz.f6 (OpenSpec.ofChange Rows.modelOneSpec).bare Rows.modelOneRow=true:=by
 unfold joinedFacts;rw[fIn,fUn,fRe,fNa];kernel_rfl
end Go.Proofs.YtnopaopphmjnmaaGreatDoor.law6
