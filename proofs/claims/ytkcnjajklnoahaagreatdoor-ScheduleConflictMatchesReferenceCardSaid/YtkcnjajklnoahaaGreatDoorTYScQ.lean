import Derived.Test.YtkcnjajklnoahaaGreatDoorTYSfD
set_option linter.unusedVariables false
set_option linter.unusedSimpArgs false
set_option maxRecDepth 100000
set_option maxHeartbeats 64000000
namespace Go.Proofs.YtkcnjajklnoahaaGreatDoor
open Go Go.Abs
def unB:List AV->Bool
 | [.bool b]=>b
 | _=>false
theorem unB_map (K:List Bool):(K.map rowB).map unB=K:=by
 induction K with
 | nil=>rfl
 | cons k r ih=>simp only [List.map_cons,ih];rfl
theorem chosen48E (ids:List Int) (K:List Bool) (w:Bool) (hi:ids.length<=1000) (hk:K.length=ids.length) (m:AM) (kb:Nat) (h3:Qk m.boxes kb=K.map .bool) (g3:kb < m.boxes.length) (Y:YT) (Q:AV->AM->Prop)
  (hQ:Q (.sl (Jy m.lens.length (Xa w ids K)) ((Xa w ids K).map Qp)) { m with lens:=m.lens++Kb (Xa w ids K) }) :
  EffY Tryz.prog gl0 Y 48 [.sl .ro (ids.map Qp),.bs kb 0 ids.length 1,.bool w] m Q:=by
 refine Yx code48 (fun _ _ _=>.junk) (by simp) ?_
 simp [sc48]
 refine Qg w48_0 (fun f m'=>∃ i:Nat,f 8=I i/\i<=ids.length/\f 7=.sl (Jy m.lens.length (Xa w (ids.take i) (K.take i))) ((Xa w (ids.take i) (K.take i)).map Qp)/\m'={ m with lens:=m.lens++Kb (Xa w (ids.take i) (K.take i)) }) (fun f _=>ids.length - (numOf (f 8)).toNat) ?_ ?_
 ·exact ⟨0,by simp,by omega,by simp [Xa,Jy],by simp [Xa,Kb]⟩
 ·rintro f m' ⟨i,h8,hil,h7,rfl⟩
  rcases Nat.lt_or_ge i ids.length with hlt | hge
  ·obtain ⟨id,hx⟩:=getS hlt
   obtain ⟨k,hy⟩:∃ x,K[i]? = some x:=⟨_,List.getElem?_eq_getElem (by omega)⟩
   have hrow:Qk (ids.map Qp) i=Qp id:=Qv (by simp [hx])
   have hcell:nth ((K.map AV.bool).drop i) 0=.bool k:=nth_eq (by simp [hy])
   have hmin:min 1 (K.length - i)=1:=by omega
   have hltk:i < K.length:=by omega
   have hilt:(i:Int) < (ids.length:Int):=by omega
   have hw:=wrS i (by omega)
   have htk:=selB_take (w:=w) hx hy
   have hsl:(Xa w (ids.take i) (K.take i)).length<=1000:=by
    have:=(Qbp w (ids.take i) (K.take i)).length_le
    simp at this;omega
   obtain ⟨S,hS⟩:∃ S,Xa w (ids.take i) (K.take i)=S:=⟨_,rfl⟩
   rw [hS] at h7 htk hsl |-
   cases hc:(k==w) with
   | false =>
    rw [hc] at htk
    have htk:Xa w (ids.take (i+1)) (K.take (i+1))=S:=by rw [htk];simp
    simp [h8,h7,hlt,hilt,hltk,hrow,Qp,w48_0,hw,hc,h3,g3,hcell,hmin,show 1<=K.length - i by omega]
    refine ⟨ag ?_,⟨i+1,by simp,by omega,by rw [htk];simp [h7,Qp],by rw [htk]⟩,by omega⟩
    repeat (first | exact Qb _ _ | refine Qc _ rfl ?_)
   | true =>
    rw [hc] at htk
    have htk:Xa w (ids.take (i+1)) (K.take (i+1))=S++[id]:=by rw [htk];simp
    by_cases hSe:S=[]
    ·subst hSe
     simp only [Jy,Kb,if_true,List.map_nil,List.append_nil] at h7 |-
     simp [h8,h7,hlt,hilt,hltk,hrow,Qp,w48_0,hw,hc,h3,g3,hcell,hmin,show 1<=K.length - i by omega]
     refine ⟨ag ?_,⟨i+1,by simp,by omega,by rw [htk];simp [Qp,Jy],by rw [htk];simp [Kb]⟩,by omega⟩
     repeat (first | exact Qb _ _ | refine Qc _ rfl ?_)
    ·simp only [Jy,Kb,if_neg hSe] at h7 |-
     simp [h8,h7,hlt,hilt,hltk,hrow,Qp,w48_0,hw,hc,h3,g3,hcell,hmin,show 1<=K.length - i by omega]
     refine ⟨⟨?_,by omega⟩,ag ?_,⟨i+1,by simp,by omega,by rw [htk];simp [Qp,Jy],by rw [htk];simp [Kb]⟩,by omega⟩
     ·rintro row (⟨a,_,rfl⟩ | rfl)<;>rfl
     ·repeat (first | exact Qb _ _ | refine Qc _ rfl ?_)
  ·have hin:¬ (i:Int) < (ids.length:Int):=by omega
   rw [List.take_of_length_le (by omega),List.take_of_length_le (by omega)] at h7 |-
   simp [h8,h7,hin,Nat.not_lt.2 hge,w48_0,rs48]
   exact hQ
def mR (p:Pl) (K:List Bool) (ls:List Nat):AM:=⟨[Qa p,K.map AV.bool],ls,fun _=>.gone,0⟩
def InvQa (p:Pl) (ids:List Int) (b:Bd) (T:List Bool) (f:Nat->AV) (m:AM):Prop :=
 ∃ (r:Nat) (K:List Bool) (ls:List Nat),f 11=I r/\r<=3/\K.length=ids.length/\f 10=.bs 1 0 ids.length 1/\chF (okE b) (rdS p) ids (3 - r) r K=T/\m=mR p K ls
def InvQb (p:Pl) (ids:List Int) (b:Bd) (r:Nat) (T:List Bool) (f:Nat->AV) (m:AM):Prop :=
 ∃ (i:Nat) (K:List Bool) (ls:List Nat),f 12=I i/\i<=ids.length/\K.length=ids.length/\stF (okE b) (rdS p) ids r (ids.length - i) i K=T/\m=mR p K ls
def orcQ (p:Pl) (at_:Int) (past:List Ad):Nat->FuncId->List AV->AV:=fun d f l=>if f=999999 then (if d=19 then .mobj 0 [] else .junk) else if f=47 then (match l with
 | [_,.int _ id]=>I (rdS p id:Nat) | _=>.junk) else if f=48 then .gd false .junk else (match l with
 | [_,.sl _ a,_,_]=>Ui p at_ past (a.map unI) | _=>.junk)
theorem refCho20 {p:Pl} (h:PlK p) {at_:Int} (ha:Xx at_) {past:List Ad} (hp:past.length<=1000) {ids:List Int} (hi:ids.length<=1000) :
  Pure Tryz.prog gl0 20 [.agg (Qa p),.sl .ro (ids.map Qp),I at_,.sl .ro (past.map Qu)] (choR p at_ past ids):=by
 have hpk:=h
 obtain ⟨l1,l2,l3,l4,l5,l6,l7,l8,l9,l10⟩:=h
 have hun:∀ l:List Int,(l.map Qp).map unI=l:=unI_map
 have hun2:(unI ∘ Qp:Int->Int)=id:=by funext n;rfl
 have hunb:∀ l:List Bool,(l.map rowB).map unB=l:=unB_map
 have hunb2:(unB ∘ rowB:Bool->Bool)=id:=by funext n;rfl
 refine Ql code20 (orcQ p at_ past) (by simp) ?_
 simp [sc20,Qa,orcQ]
 refine ⟨by omega,?_⟩
 refine Qg w20_0 (InvQa p ids (bdP p at_ past) (Yp p at_ past ids)) (fun f _=>(3 - numOf (f 11)).toNat) ?_ ?_
 ·exact ⟨0,List.replicate ids.length false,[],by simp,by omega,by simp,by simp,rfl,by simp [mR,Qa,fills_one]⟩
 ·rintro f m ⟨r,K,ls,h11,hr3,hK,h10,hT,rfl⟩
  rcases Nat.lt_or_ge r 3 with rlt | rge
  ·have rilt:(r:Int) < 3:=by omega
   have hwr:=wrS r (by omega)
   obtain ⟨n,hn⟩:∃ n,3 - r=n+1:=⟨2 - r,by omega⟩
   rw [hn,chF] at hT
   obtain ⟨T,hTr⟩:∃ T,Yw (okE (bdP p at_ past)) (rdS p) ids r K=T:=⟨_,rfl⟩
   rw [hTr] at hT
   rw [stF_round] at hTr
   simp [h11,h10,rlt,rilt,w20_0,mR]
   refine Qg w20_1 (InvQb p ids (bdP p at_ past) r T) (fun f _=>ids.length - (numOf (f 12)).toNat) ?_ ?_
   ·exact ⟨0,K,ls,by simp,by omega,hK,by simpa using hTr,by simp [mR]⟩
   ·clear hTr hK
    rintro g m ⟨i,K,ls,g12,hil,hK,hTi,rfl⟩
    rcases Nat.lt_or_ge i ids.length with hlt | hge
    ·obtain ⟨id,hx⟩:=getS hlt
     have hrow:Qk (ids.map Qp) i=Qp id:=Qv (by simp [hx])
     have hilt:(i:Int) < (ids.length:Int):=by omega
     have hltk:i < K.length:=by omega
     have hw:=wrS i (by omega)
     obtain ⟨n2,hn2⟩:∃ n2,ids.length - i=n2+1:=⟨ids.length - i - 1,by omega⟩
     have hn3:ids.length - (i+1)=n2:=by omega
     rw [hn2,stF,stepK_of hx] at hTi
     have k47:=round47 p id (by omega) (by omega)
     by_cases hrd:rdS p id=r
     ·rw [if_pos hrd] at hTi
      have hrd':((rdS p id:Nat):Int)=(r:Int):=by omega
      rw [hrd'] at k47
      obtain ⟨S,hS⟩:∃ S,Xa true ids (K.set i true)=S:=⟨_,rfl⟩
      have hSl:S.length<=1000:=by have:=selB_le true ids (K.set i true);rw [hS] at this;omega
      have hK2:(K.set i true).length=ids.length:=by simpa using hK
      have k48:=chosen48E ids (K.set i true) true hi hK2 (mR p (K.set i true) ls) 1 rfl (by simp [mR]) Y0
      rw [hS] at k48
      have k17:=ref17 hpk ha hp hSl
      rw [hS] at hTi
      have hms:(K.map AV.bool).set i (.bool true)=(K.set i true).map AV.bool:=by rw [List.map_set]
      have hcvc:∀ m d,cvn m (d+1) (.sl (Jy ls.length S) (S.map Qp))=.sl (rtE S) (S.map Qp):=fun m d=>by
       unfold Jy rtE;split<;>rfl
      have k17:=Qz k17 (l:=[.agg (Qa p),.sl (rtE S) (S.map Qp),I at_,.sl .ro (past.map Qu)]) ⟨Wk.refl _,Wk.sl _ _,Wk.refl _,Wk.refl _,trivial⟩
      cases he:Qq p at_ past S with
      | none =>
       rw [Vq,he] at hTi
       rw [Qaf he] at k17
       simp only [Qa] at k47 k17
       simp [g12,h10,h11,hlt,hilt,hltk,hrow,Qp,w20_1,mR,Qa,orcQ,hrd',hw]
       refine ⟨k47,by omega,Jn [(.sl (Jy ls.length S) (S.map Qp),mR p (K.set i true) (ls++Kb S))] ?_⟩
       simp [mR,Qa,orcQ,hun,hun2,Qaf he,hcvc,hw]
       rw [hms]
       refine ⟨k48 _ ⟨rfl,rfl⟩,k17,hlt,by omega,ag ?_,⟨i+1,K.set i false,ls++Kb S,by simp,by omega,by simpa using hK,by rw [hn3];exact hTi,by simp [mR,Qa]⟩,by simp [g12];omega⟩
       repeat (first | exact Qb _ _ | refine Qc _ rfl ?_)
      | some l =>
       rw [Vq,he] at hTi
       rw [Ko he] at k17
       simp only [Qa] at k47 k17
       simp [g12,h10,h11,hlt,hilt,hltk,hrow,Qp,w20_1,mR,Qa,orcQ,hrd',hw]
       refine ⟨k47,by omega,Jn [(.sl (Jy ls.length S) (S.map Qp),mR p (K.set i true) (ls++Kb S))] ?_⟩
       simp [mR,Qa,orcQ,hun,hun2,Ko he,hcvc,hw]
       rw [hms]
       refine ⟨k48 _ ⟨rfl,rfl⟩,k17,hlt,by omega,ag ?_,⟨i+1,K.set i true,ls++Kb S,by simp,by omega,by simpa using hK,by rw [hn3];exact hTi,by simp [mR,Qa]⟩,by simp [g12];omega⟩
       repeat (first | exact Qb _ _ | refine Qc _ rfl ?_)
     ·rw [if_neg hrd] at hTi
      have hrd':¬ ((rdS p id:Nat):Int)=(r:Int):=by omega
      simp only [Qa] at k47
      simp [g12,h10,h11,hlt,hilt,hltk,hrow,Qp,w20_1,mR,Qa,orcQ,hrd',hw]
      refine ⟨k47,ag ?_,⟨i+1,K,ls,by simp,by omega,hK,by rw [hn3];exact hTi,by simp [mR,Qa]⟩,by omega⟩
      repeat (first | exact Qb _ _ | refine Qc _ rfl ?_)
    ·have hin:¬ (i:Int) < (ids.length:Int):=by omega
     have hz:ids.length - i=0:=by omega
     rw [hz,stF] at hTi
     subst hTi
     simp [g12,hin,Nat.not_lt.2 hge,w20_1,w20_0,h11,h10,mR,Qa,hwr]
     refine ⟨ag ?_,⟨r+1,K,ls,by simp,by omega,hK,by simp [h10],by rw [show 3 - (r+1)=n by omega];exact hT,by simp [mR,Qa]⟩,by omega⟩
     repeat (first | exact Qb _ _ | refine Qc _ rfl ?_)
  ·have rin:¬ (r:Int) < 3:=by omega
   obtain rfl:r=3:=by omega
   have hT:K=Yp p at_ past ids:=hT
   obtain ⟨ka,kb,kc⟩:=keptS_spec p at_ past ids
   rw [<- hT] at kb
   obtain ⟨L,hL⟩:=Option.isSome_iff_exists.1 kb
   have hr:choR p at_ past ids=.tup [Vm L,Ww (Xa false ids K)]:=by rw [choR,<- hT,hL];rfl
   rw [hr]
   obtain ⟨S,hS⟩:∃ S,Xa true ids K=S:=⟨_,rfl⟩
   obtain ⟨D,hD⟩:∃ D,Xa false ids K=D:=⟨_,rfl⟩
   have hSl:S.length<=1000:=by have:=selB_le true ids K;rw [hS] at this;omega
   have k48:=chosen48E ids K true hi hK (mR p K ls) 1 rfl (by simp [mR]) Y0
   have k48f:=chosen48E ids K false hi hK (mR p K (ls++Kb S)) 1 rfl (by simp [mR]) Y0
   have k17:=Qz (ref17 hpk ha hp hSl) (l:=[.agg (Qa p),.sl (rtE S) (S.map Qp),I at_,.sl .ro (past.map Qu)]) ⟨Wk.refl _,Wk.sl _ _,Wk.refl _,Wk.refl _,trivial⟩
   rw [hS] at k48
   rw [hD] at k48f
   rw [hS] at hL
   rw [Ko hL] at k17
   rw [hD,Qbo,slI8_rt]
   have hcvc:∀ m d,cvn m (d+1) (.sl (Jy ls.length S) (S.map Qp))=.sl (rtE S) (S.map Qp):=fun m d=>by
    unfold Jy rtE;split<;>rfl
   have hcvd:∀ m d n,cvn m (d+1) (.sl (Jy n D) (D.map Qp))=.sl (rtE D) (D.map Qp):=fun m d n=>by
    unfold Jy rtE;split<;>rfl
   simp only [Qa] at k17
   simp [h11,h10,w20_0,rs20,mR,Qa,orcQ]
   refine Jn [(.sl (Jy ls.length S) (S.map Qp),mR p K (ls++Kb S))] ?_
   simp [mR,Qa,orcQ,hun,hun2,Ko hL,hcvc]
   refine ⟨k48 _ ⟨rfl,rfl⟩,k17,?_⟩
   refine k48f _ ?_
   simp [rs20,hcvd]
end Go.Proofs.YtkcnjajklnoahaaGreatDoor
