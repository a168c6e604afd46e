import Derived.Test.YthjppoincojfkaaGreatDoorCards
import Derived.Test.YthjppoincojfkaaGreatDoorTie
import Derived.WalkKit
import Derived.ProofKit
import Derived.OpenShut
import Derived.Deep.DeepHandedRow
import Derived.Lib.LaidTab
set_option linter.all false
namespace Go.Proofs.YthjppoincojfkaaGreatDoor.law8
open Go Go.RowKit
def fIn:Tryz.pinned.checked.prog.inPlace 8=Rows.replanCuesRow.inPlace:=by kernel_rfl
def fUn:Tryz.pinned.checked.prog.unfollowed 8=Rows.replanCuesRow.unfollowed:=by kernel_rfl
def fRe:Tryz.pinned.checked.prog.recurses 8=Rows.replanCuesRow.recurses:=by
 unfold Program.recurses;rw[fUn];exact Bool.true_or _
def fNa:Tryz.pinned.checked.prog.varsNamed 8=Rows.replanCuesRow.named:=by kernel_rfl
def gI:joinedFacts Tryz.pinned.checked.prog 8 Tryz.f8 (OpenSpec.ofChange Rows.replanCuesSpec).bare Rows.replanCuesRow=true:=by
 unfold joinedFacts;rw[fIn,fUn,fRe,fNa];kernel_rfl
end Go.Proofs.YthjppoincojfkaaGreatDoor.law8
