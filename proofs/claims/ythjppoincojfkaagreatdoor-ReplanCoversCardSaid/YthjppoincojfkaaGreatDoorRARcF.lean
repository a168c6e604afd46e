import Derived.Test.YthjppoincojfkaaGreatDoorCards
import Derived.Test.YthjppoincojfkaaGreatDoorTie
import Derived.WalkKit
import Derived.ProofKit
import Derived.OpenShut
import Derived.Deep.DeepHandedRow
import Derived.Lib.LaidTab
set_option linter.all false
namespace Go.Proofs.YthjppoincojfkaaGreatDoor.law4
open Go Go.RowKit
def fIn:Tryz.pinned.checked.prog.inPlace 4=Rows.replanCoversRow.inPlace:=by kernel_rfl
def fUn:Tryz.pinned.checked.prog.unfollowed 4=Rows.replanCoversRow.unfollowed:=by kernel_rfl
def fRe:Tryz.pinned.checked.prog.recurses 4=Rows.replanCoversRow.recurses:=by
 unfold Program.recurses;rw[fUn];exact Bool.true_or _
def fNa:Tryz.pinned.checked.prog.varsNamed 4=Rows.replanCoversRow.named:=by kernel_rfl
def gI:joinedFacts Tryz.pinned.checked.prog 4 Tryz.f4 (OpenSpec.ofChange Rows.replanCoversSpec).bare Rows.replanCoversRow=true:=by
 unfold joinedFacts;rw[fIn,fUn,fRe,fNa];kernel_rfl
end Go.Proofs.YthjppoincojfkaaGreatDoor.law4
