import Derived.Test.YthjppoincojfkaaGreatDoorCards
import Derived.Test.YthjppoincojfkaaGreatDoorTie
import Derived.WalkKit
import Derived.ProofKit
import Derived.OpenShut
import Derived.Deep.DeepHandedRow
import Derived.Lib.LaidTab
set_option linter.all false
namespace Go.Proofs.YthjppoincojfkaaGreatDoor.law10
open Go Go.RowKit
def fIn:Tryz.pinned.checked.prog.inPlace 10=Rows.replanSoldRow.inPlace:=by kernel_rfl
def fUn:Tryz.pinned.checked.prog.unfollowed 10=Rows.replanSoldRow.unfollowed:=by kernel_rfl
def fRe:Tryz.pinned.checked.prog.recurses 10=Rows.replanSoldRow.recurses:=by
 unfold Program.recurses;rw[fUn];exact Bool.true_or _
def fNa:Tryz.pinned.checked.prog.varsNamed 10=Rows.replanSoldRow.named:=by kernel_rfl
def LH:joinedFacts Tryz.pinned.checked.prog 10 Tryz.f10 (OpenSpec.ofChange Rows.replanSoldSpec).bare Rows.replanSoldRow=true:=by
 unfold joinedFacts;rw[fIn,fUn,fRe,fNa];kernel_rfl
end Go.Proofs.YthjppoincojfkaaGreatDoor.law10
