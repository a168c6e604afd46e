import Derived.Test.YtkcnjajklnoahaaGreatDoorTYScQ
set_option linter.unusedVariables false
set_option linter.unusedSimpArgs false
set_option maxRecDepth 100000
set_option maxHeartbeats 64000000
namespace Go.Proofs.YtkcnjajklnoahaaGreatDoor
open Go Go.Abs
def orcL4 (B:Ca) (R C:AV):Nat->FuncId->List AV->AV:=fun _ f _=>if f=15 then .agg (Qw B) else if f=19 then R else if f=20 then R else if f=22 then C else if f=23 then C else .bool true
theorem law4 (c:Ca) (h:Ca64 c):Pure Tryz.prog gl0 4 [.agg (Qw c)] (.bool true):=by
 have k14:=sane14
 have k15:=bound15 c h
 have b:=bnd_of h
 obtain ⟨B,hB⟩:∃ B,bndC c=B:=⟨_,rfl⟩
 rw [hB] at k15 b
 have hp6:B.past.length<=1000:=by have:=b.past;omega
 have hi10:B.ids.length<=1000:=by have:=b.ids;omega
 have k19:=choose19 b.k b.at_ hp6 hi10
 have k20:=refCho20 b.k b.at_ hp6 hi10
 have k22:=conflict22 b.k b.at_ hp6 hi10
 have k23:=refCon23 b.k b.at_ hp6 hi10
 obtain ⟨ka,kb,kc⟩:=keptS_spec B.p B.at_ B.past B.ids
 obtain ⟨L,hL⟩:∃ L,(Qq B.p B.at_ B.past (Xa true B.ids (Yp B.p B.at_ B.past B.ids))).getD []=L:=⟨_,rfl⟩
 obtain ⟨D,hD⟩:∃ D,Xa false B.ids (Yp B.p B.at_ B.past B.ids)=D:=⟨_,rfl⟩
 obtain ⟨C,hC⟩:∃ C,Yf (bdP B.p B.at_ B.past) B.ids=C:=⟨_,rfl⟩
 have hLl:L.length<=1000:=by
  obtain ⟨l,hl⟩:=Option.isSome_iff_exists.1 kb
  rw [hl] at hL
  have hL:l=L:=hL
  have:=ear_len hl
  have:=selB_le true B.ids (Yp B.p B.at_ B.past B.ids)
  rw [<- hL];omega
 have hDl:D.length<=1000:=by have:=selB_le false B.ids (Yp B.p B.at_ B.past B.ids);rw [hD] at this;omega
 have hCl:C.length<=1000:=by
  cases he:Qq B.p B.at_ B.past B.ids with
  | some l =>
   have:=con_none (p:=B.p) (at_:=B.at_) (past:=B.past) (ids:=B.ids) (by rw [he];rfl)
   rw [<- hC,this];simp
  | none =>
   have:=(con_some he).2.2.1.length_le
   rw [hC] at this;omega
 have hr:choR B.p B.at_ B.past B.ids=.tup [.sl (rtE L) (L.map Qe),.sl (rtE D) (D.map Qp)]:=by rw [choR,hL,hD,Qbo,slI8_rt]
 have hc:conR B.p B.at_ B.past B.ids=.sl (rtE C) (C.map Qp):=by rw [conR,hC,slI8_rt]
 rw [hr] at k19 k20
 rw [hc] at k22 k23
 have s1:=sameI_self (l:=C) (by omega) (rtE C) (rtE C)
 have s2:=Qcg (l:=L) (by omega) (rtE L) (rtE L)
 have s3:=sameI_self (l:=D) (by omega) (rtE D) (rtE D)
 simp only [Qw,Qa] at k15 k19 k20 k22 k23
 refine Ql code4 (orcL4 B (.tup [.sl (rtE L) (L.map Qe),.sl (rtE D) (D.map Qp)]) (.sl (rtE C) (C.map Qp))) (by simp) ?_
 simp [sc4,rs4,Qw,Qa,orcL4]
 exact ⟨k14,k15,k19,k20,k22,k23,s1,s2,s3⟩
end Go.Proofs.YtkcnjajklnoahaaGreatDoor
