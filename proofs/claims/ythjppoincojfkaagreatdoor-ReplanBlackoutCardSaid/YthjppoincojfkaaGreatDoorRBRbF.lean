import Derived.Test.YthjppoincojfkaaGreatDoorCards
import Derived.Test.YthjppoincojfkaaGreatDoorTie
import Derived.WalkKit
import Derived.ProofKit
import Derived.OpenShut
import Derived.Deep.DeepHandedRow
import Derived.Lib.LaidTab
set_option linter.all false
namespace Go.Proofs.YthjppoincojfkaaGreatDoor.law9
open Go Go.RowKit
def fIn:Tryz.pinned.checked.prog.inPlace 9=Rows.replanBlackoutRow.inPlace:=by kernel_rfl
def fUn:Tryz.pinned.checked.prog.unfollowed 9=Rows.replanBlackoutRow.unfollowed:=by kernel_rfl
def fRe:Tryz.pinned.checked.prog.recurses 9=Rows.replanBlackoutRow.recurses:=by
 unfold Program.recurses;rw[fUn];exact Bool.true_or _
def fNa:Tryz.pinned.checked.prog.varsNamed 9=Rows.replanBlackoutRow.named:=by kernel_rfl
def Lw:joinedFacts Tryz.pinned.checked.prog 9 Tryz.f9 (OpenSpec.ofChange Rows.replanBlackoutSpec).bare Rows.replanBlackoutRow=true:=by
 unfold joinedFacts;rw[fIn,fUn,fRe,fNa];kernel_rfl
end Go.Proofs.YthjppoincojfkaaGreatDoor.law9
