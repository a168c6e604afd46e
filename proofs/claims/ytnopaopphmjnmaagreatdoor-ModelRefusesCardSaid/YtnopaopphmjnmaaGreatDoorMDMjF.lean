import Derived.Test.YtnopaopphmjnmaaGreatDoorCards
import Derived.Test.YtnopaopphmjnmaaGreatDoorTie
import Derived.WalkKit
import Derived.ProofKit
import Derived.OpenShut
import Derived.Deep.DeepHandedRow
import Derived.Lib.LaidTab
set_option linter.all false
namespace Go.Proofs.YtnopaopphmjnmaaGreatDoor.law8
open Go Go.RowKit
def fIn:Tryz.pinned.checked.prog.inPlace 8=Rows.modelRefusesRow.inPlace:=by kernel_rfl
def fUn:Tryz.pinned.checked.prog.unfollowed 8=Rows.modelRefusesRow.unfollowed:=by kernel_rfl
def fRe:Tryz.pinned.checked.prog.recurses 8=Rows.modelRefusesRow.recurses:=by
 unfold Program.recurses;rw[fUn];exact Bool.true_or _
def fNa:Tryz.pinned.checked.prog.varsNamed 8=Rows.modelRefusesRow.named:=by kernel_rfl
def ym:joinedFacts Tryz.pinned.checked.prog 8 Tryz.f8 (OpenSpec.ofChange Rows.modelRefusesSpec).bare Rows.modelRefusesRow=true:=by
 unfold joinedFacts;rw[fIn,fUn,fRe,fNa];kernel_rfl
end Go.Proofs.YtnopaopphmjnmaaGreatDoor.law8
