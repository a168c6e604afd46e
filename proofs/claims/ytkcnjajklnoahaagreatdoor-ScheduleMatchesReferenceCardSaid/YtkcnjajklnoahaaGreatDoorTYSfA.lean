import Derived.Test.YtkcnjajklnoahaaGreatDoorTYSfD
set_option linter.unusedVariables false
set_option linter.unusedSimpArgs false
set_option maxRecDepth 100000
set_option maxHeartbeats 64000000
namespace Go.Proofs.YtkcnjajklnoahaaGreatDoor
open Go Go.Abs
def orcL3 (B:Ca) (R:AV):Nat->FuncId->List AV->AV:=fun _ f _=>if f=15 then .agg (Qw B) else if f=16 then R else if f=17 then R else .bool true
theorem law3 (c:Ca) (h:Ca64 c):Pure Tryz.prog gl0 3 [.agg (Qw c)] (.bool true):=by
 have k14:=sane14
 have k15:=bound15 c h
 have b:=bnd_of h
 obtain ⟨B,hB⟩:∃ B,bndC c=B:=⟨_,rfl⟩
 rw [hB] at k15 b
 have k16:=ear16 b
 have k17:=ref17 b.k b.at_ (past:=B.past) (by have:=b.past;omega) (ids:=B.ids) (by have:=b.ids;omega)
 cases he:Qq B.p B.at_ B.past B.ids with
 | none =>
  rw [Qaf he] at k16 k17
  have s:=Qcg (l:=[]) (by simp) .nil .nil
  simp only [Qw,Qa] at k15 k16 k17
  refine Ql code3 (orcL3 B (.tup [.sl .nil [],.bool false])) (by simp) ?_
  simp [sc3,rs3,Qw,Qa,orcL3]
  exact ⟨k14,k15,k16,k17,s⟩
 | some l =>
  rw [Ko he] at k16 k17
  have hl:=ear_len he
  have s:=Qcg (l:=l) (by have:=b.ids;omega) (rtE l) (rtE l)
  simp only [Qw,Qa] at k15 k16 k17
  refine Ql code3 (orcL3 B (.tup [.sl (rtE l) (l.map Qe),.bool true])) (by simp) ?_
  simp [sc3,rs3,Qw,Qa,orcL3]
  exact ⟨k14,k15,k16,k17,s⟩
end Go.Proofs.YtkcnjajklnoahaaGreatDoor
