import Derived.Test.YtfliagpjbbkijaaGreatDoorCards
import Derived.Test.YtfliagpjbbkijaaGreatDoorTie
import Derived.WalkKit
import Derived.ProofKit
import Derived.OpenShut
import Derived.Deep.DeepHandedRow
import Derived.Lib.LaidTab
set_option linter.all false
namespace Go.Proofs.YtfliagpjbbkijaaGreatDoor.law5
open Go Go.RowKit
def fIn:Tryz.pinned.checked.prog.inPlace 5=Rows.replanOrdersMatchReferenceRow.inPlace:=by kernel_rfl
def fUn:Tryz.pinned.checked.prog.unfollowed 5=Rows.replanOrdersMatchReferenceRow.unfollowed:=by kernel_rfl
def fRe:Tryz.pinned.checked.prog.recurses 5=Rows.replanOrdersMatchReferenceRow.recurses:=by
 unfold Program.recurses;rw[fUn];exact Bool.true_or _
def fNa:Tryz.pinned.checked.prog.varsNamed 5=Rows.replanOrdersMatchReferenceRow.named:=by kernel_rfl
def LD:joinedFacts Tryz.pinned.checked.prog 5 Tryz.f5 (OpenSpec.ofChange Rows.replanOrdersMatchReferenceSpec).bare Rows.replanOrdersMatchReferenceRow=true:=by
 unfold joinedFacts;rw[fIn,fUn,fRe,fNa];kernel_rfl
end Go.Proofs.YtfliagpjbbkijaaGreatDoor.law5
