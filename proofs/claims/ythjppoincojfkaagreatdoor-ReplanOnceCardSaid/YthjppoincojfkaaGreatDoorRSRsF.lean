import Derived.Test.YthjppoincojfkaaGreatDoorCards
import Derived.Test.YthjppoincojfkaaGreatDoorTie
import Derived.WalkKit
import Derived.ProofKit
import Derived.OpenShut
import Derived.Deep.DeepHandedRow
import Derived.Lib.LaidTab
set_option linter.all false
namespace Go.Proofs.YthjppoincojfkaaGreatDoor.law6
open Go Go.RowKit
def fIn:Tryz.pinned.checked.prog.inPlace 6=Rows.replanOnceRow.inPlace:=by kernel_rfl
def fUn:Tryz.pinned.checked.prog.unfollowed 6=Rows.replanOnceRow.unfollowed:=by kernel_rfl
def fRe:Tryz.pinned.checked.prog.recurses 6=Rows.replanOnceRow.recurses:=by
 unfold Program.recurses;rw[fUn];exact Bool.true_or _
def fNa:Tryz.pinned.checked.prog.varsNamed 6=Rows.replanOnceRow.named:=by kernel_rfl
def LK:joinedFacts Tryz.pinned.checked.prog 6 Tryz.f6 (OpenSpec.ofChange Rows.replanOnceSpec).bare Rows.replanOnceRow=true:=by
 unfold joinedFacts;rw[fIn,fUn,fRe,fNa];kernel_rfl
end Go.Proofs.YthjppoincojfkaaGreatDoor.law6
