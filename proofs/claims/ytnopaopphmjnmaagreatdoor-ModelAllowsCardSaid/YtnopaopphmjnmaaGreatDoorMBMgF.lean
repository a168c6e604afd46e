import Derived.Test.YtnopaopphmjnmaaGreatDoorCards
import Derived.Test.YtnopaopphmjnmaaGreatDoorTie
import Derived.WalkKit
import Derived.ProofKit
import Derived.OpenShut
import Derived.Deep.DeepHandedRow
import Derived.Lib.LaidTab
set_option linter.all false
namespace Go.Proofs.YtnopaopphmjnmaaGreatDoor.law4
open Go Go.RowKit
def fIn:Tryz.pinned.checked.prog.inPlace 4=Rows.modelAllowsRow.inPlace:=by kernel_rfl
def fUn:Tryz.pinned.checked.prog.unfollowed 4=Rows.modelAllowsRow.unfollowed:=by kernel_rfl
def fRe:Tryz.pinned.checked.prog.recurses 4=Rows.modelAllowsRow.recurses:=by
 unfold Program.recurses;rw[fUn];exact Bool.true_or _
def fNa:Tryz.pinned.checked.prog.varsNamed 4=Rows.modelAllowsRow.named:=by kernel_rfl
def ya:joinedFacts Tryz.pinned.checked.prog 4 Tryz.f4 (OpenSpec.ofChange Rows.modelAllowsSpec).bare Rows.modelAllowsRow=true:=by
 unfold joinedFacts;rw[fIn,fUn,fRe,fNa];kernel_rfl
end Go.Proofs.YtnopaopphmjnmaaGreatDoor.law4
