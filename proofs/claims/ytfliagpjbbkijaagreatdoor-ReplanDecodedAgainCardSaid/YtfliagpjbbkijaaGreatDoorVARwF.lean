import Derived.Test.YtfliagpjbbkijaaGreatDoorCards
import Derived.Test.YtfliagpjbbkijaaGreatDoorTie
import Derived.WalkKit
import Derived.ProofKit
import Derived.OpenShut
import Derived.Deep.DeepHandedRow
import Derived.Lib.LaidTab
set_option linter.all false
namespace Go.Proofs.YtfliagpjbbkijaaGreatDoor.law4
open Go Go.RowKit
def fIn:Tryz.pinned.checked.prog.inPlace 4=Rows.replanDecodedAgainRow.inPlace:=by kernel_rfl
def fUn:Tryz.pinned.checked.prog.unfollowed 4=Rows.replanDecodedAgainRow.unfollowed:=by kernel_rfl
def fRe:Tryz.pinned.checked.prog.recurses 4=Rows.replanDecodedAgainRow.recurses:=by
 unfold Program.recurses;rw[fUn];exact Bool.true_or _
def fNa:Tryz.pinned.checked.prog.varsNamed 4=Rows.replanDecodedAgainRow.named:=by kernel_rfl
def yD:joinedFacts Tryz.pinned.checked.prog 4 Tryz.f4 (OpenSpec.ofChange Rows.replanDecodedAgainSpec).bare Rows.replanDecodedAgainRow=true:=by
 unfold joinedFacts;rw[fIn,fUn,fRe,fNa];kernel_rfl
end Go.Proofs.YtfliagpjbbkijaaGreatDoor.law4
