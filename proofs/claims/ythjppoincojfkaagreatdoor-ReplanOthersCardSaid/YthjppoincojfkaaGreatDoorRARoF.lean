import Derived.Test.YthjppoincojfkaaGreatDoorCards
import Derived.Test.YthjppoincojfkaaGreatDoorTie
import Derived.WalkKit
import Derived.ProofKit
import Derived.OpenShut
import Derived.Deep.DeepHandedRow
import Derived.Lib.LaidTab
set_option linter.all false
namespace Go.Proofs.YthjppoincojfkaaGreatDoor.law7
open Go Go.RowKit
def fIn:Tryz.pinned.checked.prog.inPlace 7=Rows.replanOthersRow.inPlace:=by kernel_rfl
def fUn:Tryz.pinned.checked.prog.unfollowed 7=Rows.replanOthersRow.unfollowed:=by kernel_rfl
def fRe:Tryz.pinned.checked.prog.recurses 7=Rows.replanOthersRow.recurses:=by
 unfold Program.recurses;rw[fUn];exact Bool.true_or _
def fNa:Tryz.pinned.checked.prog.varsNamed 7=Rows.replanOthersRow.named:=by kernel_rfl
def gI:joinedFacts Tryz.pinned.checked.prog 7 Tryz.f7 (OpenSpec.ofChange Rows.replanOthersSpec).bare Rows.replanOthersRow=true:=by
 unfold joinedFacts;rw[fIn,fUn,fRe,fNa];kernel_rfl
end Go.Proofs.YthjppoincojfkaaGreatDoor.law7
