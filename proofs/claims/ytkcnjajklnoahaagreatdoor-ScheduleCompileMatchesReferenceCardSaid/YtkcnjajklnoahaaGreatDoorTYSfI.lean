import Derived.Test.YtkcnjajklnoahaaGreatDoorTYSfG
import Derived.Test.YtkcnjajklnoahaaGreatDoorTYScY
set_option linter.unusedVariables false
set_option linter.unusedSimpArgs false
set_option maxRecDepth 100000
set_option maxHeartbeats 64000000
namespace Go.Proofs.YtkcnjajklnoahaaGreatDoor
open Go Go.Abs
structure Shp (P:Pl):Prop where
 k:PlK P
 s:PlS P
 en8:P.ens.length<=8
 cl15:P.cls.length<=15
theorem shp_of {p:Pl} (h:Pl64 p):Shp (shP p):=⟨shP_K h,shP_S h,by simp [shP];omega,by simp [shP];omega⟩
theorem comp25 {P:Pl} (h:Shp P):Pure Tryz.prog gl0 25 [.agg (Qa P)] (Vv P):=by
 have hk:=h.k
 exact compile21 P h.s (by have:=h.cl15;omega) (by have:=h.en8;omega) hk.ln.2 (fun e he=>(hk.ea e he).2)
theorem ids_lenP {P:Pl}:(Xv P).length=P.ens.length:=by simp [Xv]
def Wl (P:Pl) (R:AV):Nat->FuncId->List AV->AV:=fun _ f _=>if f=999999 then .junk else if f=24 then .agg (Qa P) else if f=25 then R else if f=33 then .bool (pvB P) else if f=16 then .tup [.sl .nil [],.bool false] else .bool true
def Inv13 (P:Pl) (f:Nat->AV) (m:AM):Prop:=∃ (i:Nat) (rt:Rt) (ls:List Nat),f 8=I i/\i<=P.ens.length/\OutR 1 0 ls rt ((Xv P).take i)/\m=⟨[Qa P,Qa P++[.sl rt (((Xv P).take i).map Qp),I 0,I 0,.sl .nil []]],ls,fun _=>.gone,0⟩
theorem law13 (p:Pl) (h:Pl64 p):Pure Tryz.prog gl0 13 [.agg (Qa p)] (.bool true):=by
 have k14:=sane14
 have k24:=short24 p h
 have b:=shp_of h
 obtain ⟨P,hP⟩:∃ P,shP p=P:=⟨_,rfl⟩
 rw [hP] at k24 b
 have k25:=comp25 b
 have k33:=vValid33 P b.k (by have:=b.cl15;omega)
 have hen:=b.en8
 cases hv:pvB P with
 | false =>
  have hr:Vv P=.tup [.sl .nil [],.sl .nil [],I 80]:=by rw [Vv,if_pos hv]
  rw [hr] at k25
  rw [hv] at k33
  simp only [Qa] at k24 k25 k33
  refine Ql code13 (Wl P (.tup [.sl .nil [],.sl .nil [],I 80])) (by simp) ?_
  simp [sc13,rs13,Qa,Wl,hv]
  exact ⟨k14,k24,k25,k33⟩
 | true =>
  rw [hv] at k33
  have hv':¬ pvB P=false:=by rw [hv];simp
  have hil:=ids_lenP (P:=P)
  cases he:Qq P 0 [] (Xv P) with
  | some l =>
   have he0:Zt P (Xv P) [] [] 0 (-1)=some l:=he
   have hr:Vv P=.tup [.sl (rtE l) (l.map Qe),.sl .nil [],I 0]:=by rw [Vv,if_neg hv',he0,<- Qbo]
   rw [hr] at k25
   have hh:=ear_holds he
   have k32:=fun (r:Rt)=>Qz (l:=[.agg (Qa P++[.sl r ((Xv P).map Qp),I 0,I 0,.sl .nil []]),.sl (rtE l) (l.map Qe)])
    (holds32 (c:=⟨P,Xv P,0,0,[]⟩) b.k (show Xx (0:Int) from ⟨by decide,by decide⟩) (by simp) (by simp only;omega) l)
    ⟨wk_agg ⟨Wk.refl _,Wk.refl _,Wk.refl _,Wk.refl _,Wk.refl _,Wk.refl _,Wk.refl _,Wk.refl _,Wk.refl _,Wk.refl _,Wk.refl _,Wk.refl _,Wk.refl _,Wk.sl _ _,Wk.refl _,Wk.refl _,Wk.sl _ _,trivial⟩,Wk.sl _ _,trivial⟩
   simp only at k32
   rw [hh] at k32
   simp only [Qa] at k24 k25 k33 k32
   refine Ql code13 (Wl P (.tup [.sl (rtE l) (l.map Qe),.sl .nil [],I 0])) (by simp) ?_
   simp [sc13,Qa,Wl,hv]
   refine ⟨k14,k24,k25,k33,?_⟩
   clear k14 k24 k25 k33
   refine Qg w13_0 (Inv13 P) (fun f _=>P.ens.length - (numOf (f 8)).toNat) ?_ ?_
   ·exact ⟨0,.nil,[],by simp,by omega,.inl ⟨by simp,rfl⟩,by simp [Qa]⟩
   ·rintro f m ⟨i,rt,ls,f8,hi,hO,rfl⟩
    rcases Nat.lt_or_ge i P.ens.length with hlt | hge
    ·obtain ⟨e,hx⟩:=getS hlt
     have hrow:=Zi hx
     have hilt:(i:Int) < (P.ens.length:Int):=by omega
     have hw:=wrS i (by omega)
     have hxi:(Xv P)[i]? = some e.id:=by simp [Xv,hx]
     have htk:=Zq hxi
     obtain ⟨O,hO2⟩:∃ O,(Xv P).take i=O:=⟨_,rfl⟩
     have hOl:O.length<=8:=by rw [<- hO2];simp;omega
     rw [hO2] at hO htk
     rcases hO with ⟨h1,rfl⟩ | ⟨j,rfl,hk1,hk2,hk3⟩
     ·subst h1
      simp [f8,hlt,hilt,hrow,Qd,Qa,Wl,w13_0,hw,hO2]
      refine ⟨ag ?_,⟨i+1,.own ls.length 1,ls++[1],by simp,by omega,by rw [htk];exact OutR.first (by omega) _,by simp [Qa,htk,Qp]⟩,by omega⟩
      repeat (first | exact Qb _ _ | refine Qc _ rfl ?_)
     ·simp [f8,hlt,hilt,hrow,Qd,Qa,Wl,w13_0,hw,hO2,hk2]
      refine ⟨⟨?_,by omega⟩,ag ?_,⟨i+1,.own j 1,ls.set j (O.length+1),by simp,by omega,by rw [htk];exact OutR.push hk1 hk2 _,by simp [Qa,htk,Qp]⟩,by omega⟩
      ·first | (rintro row (⟨a,_,rfl⟩ | rfl)<;>rfl) | (rintro row h;rcases h with ⟨a,_,rfl⟩ | rfl<;>rfl)
      ·repeat (first | exact Qb _ _ | refine Qc _ rfl ?_)
    ·have hin:¬ (i:Int) < (P.ens.length:Int):=by omega
     have htl:(Xv P).take i=Xv P:=List.take_of_length_le (by omega)
     rw [htl] at hO
     rcases hO with ⟨h1,rfl⟩ | ⟨j,rfl,hk1,hk2,hk3⟩
     all_goals
      simp [f8,hin,Nat.not_lt.2 hge,Qa,Wl,w13_0,htl,rs13]
      exact k32 _
  | none =>
   have he0:Zt P (Xv P) [] [] 0 (-1)=none:=he
   obtain ⟨c1,c2,c3,c4⟩:=con_some he
   obtain ⟨C,hC⟩:∃ C,Yf (bdP P 0 []) (Xv P)=C:=⟨_,rfl⟩
   rw [hC] at c1 c2 c3
   have hC0:Yf (bd0 P) (Xv P)=C:=hC
   have hr:Vv P=.tup [.sl .nil [],.sl .ro (C.map Qp),I 90]:=by rw [Vv,if_neg hv',he0,hC0]
   rw [hr] at k25
   have hCl:=c3.length_le
   have hCn:0 < C.length:=List.length_pos_iff.2 c2
   have hCi:(0:Int) < (C.length:Int):=by omega
   have k16:=Qz (l:=[.agg (Qa P),.sl .ro (C.map Qp),I 0,.sl .nil []]) (Kn b.k (at_:=0) ⟨by decide,by decide⟩ (past:=[]) (by simp) (ids:=C) (by omega)) ⟨Wk.refl _,Wk.refl _,Wk.refl _,Wk.sl _ _,trivial⟩
   rw [Qaf c1] at k16
   simp only [Qa] at k24 k25 k33 k16
   refine Ql code13 (Wl P (.tup [.sl .nil [],.sl .ro (C.map Qp),I 90])) (by simp) ?_
   simp [sc13,Qa,Wl,hv]
   refine ⟨k14,k24,k25,k33,?_⟩
   clear k14 k24 k25 k33
   refine Qg w13_0 (Inv13 P) (fun f _=>P.ens.length - (numOf (f 8)).toNat) ?_ ?_
   ·exact ⟨0,.nil,[],by simp,by omega,.inl ⟨by simp,rfl⟩,by simp [Qa]⟩
   ·rintro f m ⟨i,rt,ls,f8,hi,hO,rfl⟩
    rcases Nat.lt_or_ge i P.ens.length with hlt | hge
    ·obtain ⟨e,hx⟩:=getS hlt
     have hrow:=Zi hx
     have hilt:(i:Int) < (P.ens.length:Int):=by omega
     have hw:=wrS i (by omega)
     have hxi:(Xv P)[i]? = some e.id:=by simp [Xv,hx]
     have htk:=Zq hxi
     obtain ⟨O,hO2⟩:∃ O,(Xv P).take i=O:=⟨_,rfl⟩
     have hOl:O.length<=8:=by rw [<- hO2];simp;omega
     rw [hO2] at hO htk
     rcases hO with ⟨h1,rfl⟩ | ⟨j,rfl,hk1,hk2,hk3⟩
     ·subst h1
      simp [f8,hlt,hilt,hrow,Qd,Qa,Wl,w13_0,hw,hO2]
      refine ⟨ag ?_,⟨i+1,.own ls.length 1,ls++[1],by simp,by omega,by rw [htk];exact OutR.first (by omega) _,by simp [Qa,htk,Qp]⟩,by omega⟩
      repeat (first | exact Qb _ _ | refine Qc _ rfl ?_)
     ·simp [f8,hlt,hilt,hrow,Qd,Qa,Wl,w13_0,hw,hO2,hk2]
      refine ⟨⟨?_,by omega⟩,ag ?_,⟨i+1,.own j 1,ls.set j (O.length+1),by simp,by omega,by rw [htk];exact OutR.push hk1 hk2 _,by simp [Qa,htk,Qp]⟩,by omega⟩
      ·first | (rintro row (⟨a,_,rfl⟩ | rfl)<;>rfl) | (rintro row h;rcases h with ⟨a,_,rfl⟩ | rfl<;>rfl)
      ·repeat (first | exact Qb _ _ | refine Qc _ rfl ?_)
    ·have hin:¬ (i:Int) < (P.ens.length:Int):=by omega
     simp [f8,hin,Nat.not_lt.2 hge,Qa,Wl,w13_0,hCi,hCn,rs13]
     exact k16
end Go.Proofs.YtkcnjajklnoahaaGreatDoor
