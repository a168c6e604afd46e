import Derived.Test.YthjppoincojfkaaGreatDoorCards
import Derived.Test.YthjppoincojfkaaGreatDoorTie
import Derived.WalkKit
import Derived.ProofKit
import Derived.OpenShut
import Derived.Deep.DeepHandedRow
import Derived.Lib.LaidTab
set_option linter.all false
namespace Go.Proofs.YthjppoincojfkaaGreatDoor.law5
open Go Go.RowKit
def fIn:Tryz.pinned.checked.prog.inPlace 5=Rows.replanPermittedRow.inPlace:=by kernel_rfl
def fUn:Tryz.pinned.checked.prog.unfollowed 5=Rows.replanPermittedRow.unfollowed:=by kernel_rfl
def fRe:Tryz.pinned.checked.prog.recurses 5=Rows.replanPermittedRow.recurses:=by
 unfold Program.recurses;rw[fUn];exact Bool.true_or _
def fNa:Tryz.pinned.checked.prog.varsNamed 5=Rows.replanPermittedRow.named:=by kernel_rfl
def LD:joinedFacts Tryz.pinned.checked.prog 5 Tryz.f5 (OpenSpec.ofChange Rows.replanPermittedSpec).bare Rows.replanPermittedRow=true:=by
 unfold joinedFacts;rw[fIn,fUn,fRe,fNa];kernel_rfl
end Go.Proofs.YthjppoincojfkaaGreatDoor.law5
