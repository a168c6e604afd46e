import Derived.Test.YtfliagpjbbkijaaGreatDoorCards
import Derived.Test.YtfliagpjbbkijaaGreatDoorTie
import Derived.WalkKit
import Derived.ProofKit
import Derived.OpenShut
import Derived.Deep.DeepHandedRow
import Derived.Lib.LaidTab
set_option linter.all false
namespace Go.Proofs.YtfliagpjbbkijaaGreatDoor.law3
open Go Go.RowKit
def fIn:Tryz.pinned.checked.prog.inPlace 3=Rows.replanRoundTripRow.inPlace:=by kernel_rfl
def fUn:Tryz.pinned.checked.prog.unfollowed 3=Rows.replanRoundTripRow.unfollowed:=by kernel_rfl
def fRe:Tryz.pinned.checked.prog.recurses 3=Rows.replanRoundTripRow.recurses:=by
 unfold Program.recurses;rw[fUn];exact Bool.true_or _
def fNa:Tryz.pinned.checked.prog.varsNamed 3=Rows.replanRoundTripRow.named:=by kernel_rfl
def yD:joinedFacts Tryz.pinned.checked.prog 3 Tryz.f3 (OpenSpec.ofChange Rows.replanRoundTripSpec).bare Rows.replanRoundTripRow=true:=by
 unfold joinedFacts;rw[fIn,fUn,fRe,fNa];kernel_rfl
end Go.Proofs.YtfliagpjbbkijaaGreatDoor.law3
