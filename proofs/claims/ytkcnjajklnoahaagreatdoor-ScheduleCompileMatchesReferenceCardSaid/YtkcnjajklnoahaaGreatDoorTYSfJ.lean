import Derived.Test.YtkcnjajklnoahaaGreatDoorTYSfI
set_option linter.unusedVariables false
set_option linter.unusedSimpArgs false
set_option maxRecDepth 100000
set_option maxHeartbeats 64000000
namespace Go.Proofs.YtkcnjajklnoahaaGreatDoor
open Go Go.Abs
def orcC26 (P:Pl) (R17 R23:AV):Nat->FuncId->List AV->AV:=fun _ f _=>if f=999999 then .junk else if f=33 then .bool (pvB P) else if f=17 then R17 else R23
def Inv26 (P:Pl) (f:Nat->AV) (m:AM):Prop:=∃ (i:Nat) (rt:Rt) (ls:List Nat),f 6=I i/\i<=P.ens.length/\f 5=.sl rt (((Xv P).take i).map Qp)/\OutR 1 0 ls rt ((Xv P).take i)/\m=⟨[Qa P],ls,fun _=>.gone,0⟩
theorem comp26 {P:Pl} (b:Shp P):Pure Tryz.prog gl0 26 [.agg (Qa P)] (Vv P):=by
 have k33:=vValid33 P b.k (by have:=b.cl15;omega)
 have hen:=b.en8
 have hil:=ids_lenP (P:=P)
 have z64:Xx (0:Int):=⟨by decide,by decide⟩
 have k17:=fun (r:Rt)=>Qz (l:=[.agg (Qa P),.sl r ((Xv P).map Qp),I 0,.sl .nil []]) (ref17 b.k z64 (past:=[]) (by simp) (ids:=Xv P) (by omega)) ⟨Wk.refl _,Wk.sl _ _,Wk.refl _,Wk.sl _ _,trivial⟩
 have k23:=fun (r:Rt)=>Qz (l:=[.agg (Qa P),.sl r ((Xv P).map Qp),I 0,.sl .nil []]) (refCon23 b.k z64 (past:=[]) (by simp) (ids:=Xv P) (by omega)) ⟨Wk.refl _,Wk.sl _ _,Wk.refl _,Wk.sl _ _,trivial⟩
 cases hv:pvB P with
 | false =>
  have hr:Vv P=.tup [.sl .nil [],.sl .nil [],I 80]:=by rw [Vv,if_pos hv]
  rw [hv] at k33
  rw [hr]
  simp only [Qa] at k33
  refine Ql code26 (orcC26 P .junk .junk) (by simp) ?_
  simp [sc26,rs26,Qa,orcC26,hv]
  exact k33
 | true =>
  rw [hv] at k33
  have hv':¬ pvB P=false:=by rw [hv];simp
  obtain ⟨R17,h17,R23,h23,hR⟩:∃ R17,Ui P 0 [] (Xv P)=R17/\∃ R23,conR P 0 [] (Xv P)=R23 /\
    ((∃ l,R17=.tup [.sl (rtE l) (l.map Qe),.bool true]/\Vv P=.tup [.sl (rtE l) (l.map Qe),.sl .nil [],I 0])\/(∃ C:List Int,R17=.tup [.sl .nil [],.bool false]/\R23=.sl .ro (C.map Qp)/\Vv P=.tup [.sl .nil [],.sl .ro (C.map Qp),I 90])):=by
   refine ⟨_,rfl,_,rfl,?_⟩
   cases he:Qq P 0 [] (Xv P) with
   | some l =>
    have he0:Zt P (Xv P) [] [] 0 (-1)=some l:=he
    exact .inl ⟨l,Ko he,by rw [Vv,if_neg hv',he0,<- Qbo]⟩
   | none =>
    have he0:Zt P (Xv P) [] [] 0 (-1)=none:=he
    obtain ⟨c1,c2,c3,c4⟩:=con_some he
    obtain ⟨C,hC⟩:∃ C,Yf (bdP P 0 []) (Xv P)=C:=⟨_,rfl⟩
    rw [hC] at c2
    have hC0:Yf (bd0 P) (Xv P)=C:=hC
    exact .inr ⟨C,Qaf he,by rw [conR,hC,Ww,if_neg c2],by rw [Vv,if_neg hv',he0,hC0]⟩
  rw [h17] at k17
  rw [h23] at k23
  simp only [Qa] at k33 k17 k23
  refine Ql code26 (orcC26 P R17 R23) (by simp) ?_
  simp [sc26,Qa,orcC26,hv]
  refine ⟨k33,?_⟩
  clear k33
  refine Qg w26_0 (Inv26 P) (fun f _=>P.ens.length - (numOf (f 6)).toNat) ?_ ?_
  ·exact ⟨0,.nil,[],by simp,by omega,by simp,.inl ⟨by simp,rfl⟩,by simp [Qa]⟩
  ·rintro f m ⟨i,rt,ls,f6,hi,f5,hO,rfl⟩
   rcases Nat.lt_or_ge i P.ens.length with hlt | hge
   ·obtain ⟨e,hx⟩:=getS hlt
    have hrow:=Zi hx
    have hilt:(i:Int) < (P.ens.length:Int):=by omega
    have hw:=wrS i (by omega)
    have hxi:(Xv P)[i]? = some e.id:=by simp [Xv,hx]
    have htk:=Zq hxi
    obtain ⟨O,hO2⟩:∃ O,(Xv P).take i=O:=⟨_,rfl⟩
    have hOl:O.length<=8:=by rw [<- hO2];simp;omega
    rw [hO2] at hO htk f5
    rcases hO with ⟨h1,rfl⟩ | ⟨j,rfl,hk1,hk2,hk3⟩
    ·subst h1
     simp [f6,f5,hlt,hilt,hrow,Qd,Qa,orcC26,w26_0,hw]
     refine ⟨ag ?_,⟨i+1,.own ls.length 1,ls++[1],by simp,by omega,by rw [htk];simp [Qp],by rw [htk];exact OutR.first (by omega) _,by simp [Qa]⟩,by omega⟩
     repeat (first | exact Qb _ _ | refine Qc _ rfl ?_)
    ·simp [f6,f5,hlt,hilt,hrow,Qd,Qa,orcC26,w26_0,hw,hk2]
     refine ⟨⟨?_,by omega⟩,ag ?_,⟨i+1,.own j 1,ls.set j (O.length+1),by simp,by omega,by rw [htk];simp [Qp],by rw [htk];exact OutR.push hk1 hk2 _,by simp [Qa]⟩,by omega⟩
     ·first | (rintro row (⟨a,_,rfl⟩ | rfl)<;>rfl) | (rintro row h;rcases h with ⟨a,_,rfl⟩ | rfl<;>rfl)
     ·repeat (first | exact Qb _ _ | refine Qc _ rfl ?_)
   ·have hin:¬ (i:Int) < (P.ens.length:Int):=by omega
    have htl:(Xv P).take i=Xv P:=List.take_of_length_le (by omega)
    rw [htl] at hO f5
    rcases hR with ⟨l,rfl,hc⟩ | ⟨C,rfl,rfl,hc⟩
    ·rw [hc]
     rcases hO with ⟨h1,rfl⟩ | ⟨j,rfl,_⟩
     all_goals
      simp [f6,f5,hin,Nat.not_lt.2 hge,Qa,orcC26,w26_0,rs26]
      exact k17 _
    ·rw [hc]
     rcases hO with ⟨h1,rfl⟩ | ⟨j,rfl,_⟩
     all_goals
      simp [f6,f5,hin,Nat.not_lt.2 hge,Qa,orcC26,w26_0,rs26]
      exact ⟨k17 _,k23 _⟩
def orcL5 (P:Pl) (R:AV):Nat->FuncId->List AV->AV:=fun _ f _=>if f=24 then .agg (Qa P) else if f=25 then R else if f=26 then R else .bool true
theorem law5 (p:Pl) (h:Pl64 p):Pure Tryz.prog gl0 5 [.agg (Qa p)] (.bool true):=by
 have k14:=sane14
 have k24:=short24 p h
 have b:=shp_of h
 obtain ⟨P,hP⟩:∃ P,shP p=P:=⟨_,rfl⟩
 rw [hP] at k24 b
 have k25:=comp25 b
 have k26:=comp26 b
 have hen:=b.en8
 have hil:=ids_lenP (P:=P)
 obtain ⟨r1,l,r2,C,n,hR,hl,hC,hr1,hr2⟩:∃ (r1:Rt) (l:List Sp) (r2:Rt) (C:List Int) (n:Int),Vv P=.tup [.sl r1 (l.map Qe),.sl r2 (C.map Qp),I n]/\l.length<=1000/\C.length<=1000/\(r1=.nil\/r1=.ro)/\(r2=.nil\/r2=.ro):=by
  cases hv:pvB P with
  | false=>exact ⟨.nil,[],.nil,[],80,by rw [Vv,if_pos hv];rfl,by simp,by simp,.inl rfl,.inl rfl⟩
  | true =>
   have hv':¬ pvB P=false:=by rw [hv];simp
   cases he:Qq P 0 [] (Xv P) with
   | some l =>
    have he0:Zt P (Xv P) [] [] 0 (-1)=some l:=he
    have hll:=ear_len he
    exact ⟨rtE l,l,.nil,[],0,by rw [Vv,if_neg hv',he0,<- Qbo];rfl,by omega,by simp,by unfold rtE;split<;>simp,.inl rfl⟩
   | none =>
    have he0:Zt P (Xv P) [] [] 0 (-1)=none:=he
    obtain ⟨c1,c2,c3,c4⟩:=con_some he
    have hC0:Yf (bd0 P) (Xv P)=Yf (bdP P 0 []) (Xv P):=rfl
    have:=c3.length_le
    exact ⟨.nil,[],.ro,Yf (bdP P 0 []) (Xv P),90,by rw [Vv,if_neg hv',he0,hC0];rfl,by simp,by omega,.inl rfl,.inr rfl⟩
 rw [hR] at k25 k26
 have s1:=Qcg (l:=l) (by omega) r1 r1
 have s2:=sameI_self (l:=C) (by omega) r2 r2
 simp only [Qa] at k24 k25 k26
 refine Ql code5 (orcL5 P (.tup [.sl r1 (l.map Qe),.sl r2 (C.map Qp),I n])) (by simp) ?_
 rcases hr1 with rfl | rfl<;>rcases hr2 with rfl | rfl
 all_goals
  simp [sc5,rs5,Qa,orcL5]
  exact ⟨k14,k24,k25,k26,s1,s2⟩
end Go.Proofs.YtkcnjajklnoahaaGreatDoor
