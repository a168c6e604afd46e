import Derived.Test.YtjmgelbfndnpjaaGreatDoorPPSpA
import Derived.Test.YtjmgelbfndnpjaaGreatDoorPPPbS
set_option linter.unusedVariables false
set_option linter.unusedSimpArgs false
set_option maxRecDepth 100000
set_option maxHeartbeats 64000000
namespace Go.Proofs.YtjmgelbfndnpjaaGreatDoor
open Go Go.Abs
def em (s:Sp):Bool:=decide (s.2<=s.1)
theorem ne_em (s:Sp):ne_ s=!em s:=by simp [ne_,em,<- decide_not,Int.not_le]
theorem empty_pure (s:Sp):Pure Tryz.prog gl0 132 [.agg [I s.1,I s.2]] (.bool (em s)):=by
 refine Qn code132 (fun _ _ _=>.junk) (by simp) ?_
 simp [sc132,rs132,em]
def orcEm:Nat->FuncId->List AV->AV:=fun _ _ l=>match l with
 | [.agg [.int _ a,.int _ b]]=>.bool (decide (b<=a))
 | _=>.junk
def fstE:List Sp->Nat->Int
 | [],_ => -1
 | s::r,i=>if em s=true then i else fstE r (i+1)
theorem fstE_neg:∀ {l:List Sp} {i:Nat},fstE l i = -1->l.filter ne_=l
 | [],_,_=>rfl
 | s::r,i,h=>by
  simp only [fstE] at h
  split at h
  ·omega
  ·rename_i hn
   have hn':ne_ s=true:=by rw [ne_em];simpa using hn
   simp [List.filter_cons,hn',fstE_neg h]
theorem fstE_pos:∀ {l:List Sp} {i:Nat},fstE l i ≠ -1->∃ k:Nat,fstE l i=((i+k:Nat):Int)/\k < l.length/\(l.take (k+1)).filter ne_=l.take k
 | [],_,h=>absurd rfl h
 | s::r,i,h=>by
  simp only [fstE] at h |-
  split
  ·rename_i hs
   have hn':ne_ s=false:=by rw [ne_em,hs];rfl
   exact ⟨0,rfl,by simp,by simp [List.filter_cons,hn']⟩
  ·rename_i hs
   have hn':ne_ s=true:=by rw [ne_em];simpa using hs
   rw [if_neg hs] at h
   obtain ⟨k,h1,h2,h3⟩:=fstE_pos h
   exact ⟨k+1,by rw [h1];congr 1;omega,by simpa using h2,by simp [List.filter_cons,hn',h3]⟩
theorem indexEm_pure (l:List Sp) (hl:l.length<=1000000000):Pure Tryz.prog gl0 167 [.sl .ro (l.map Qd),.fn 132 [] []] (I (fstE l 0)):=by
 refine Qn code167 orcEm (by simp) ?_
 simp [sc167,rs167]
 refine Ql w167_0 (fun s m=>∃ i:Nat,s 8=I i/\i<=l.length/\fstE (l.drop i) i=fstE l 0/\m=⟨[],[],fun _=>.gone,0⟩) (fun s m=>l.length - (numOf (s 8)).toNat) ?_ ?_
 ·exact ⟨0,by simp,by omega,by simp,rfl⟩
 ·rintro f m ⟨i,h8,hi,hr,rfl⟩
  rcases Nat.lt_or_ge i l.length with hlt | hge
  ·obtain ⟨s,hs⟩:=getS hlt
   have hrow:=Zm hs
   have hdr:l.drop i=s::l.drop (i+1):=by
    rw [List.drop_eq_getElem_cons hlt,(List.getElem?_eq_some_iff.1 hs).2]
   have hw:=wrS i (by omega)
   have hilt:(i:Int) < (l.length:Int):=by omega
   have hp:=empty_pure s
   rw [hdr] at hr
   simp only [fstE] at hr
   by_cases he:s.2<=s.1
   ·have he':em s=true:=by simp [em,he]
    rw [he'] at hp
    rw [if_pos he'] at hr
    simp [h8,hlt,hilt,hrow,w167_0,orcEm,he,<- hr]
    exact hp
   ·have he':em s=false:=by simp [em];omega
    rw [he'] at hp
    rw [he'] at hr
    simp only [Bool.false_eq_true,if_false] at hr
    simp [h8,hlt,hilt,hrow,w167_0,orcEm,he,hw]
    refine ⟨hp,ag ?_,⟨i+1,by simp,by omega,hr⟩,by omega⟩
    repeat (first | exact Qa _ _ | refine Qb _ rfl ?_)
  ·have hin:¬ (i:Int) < (l.length:Int):=by omega
   rw [List.drop_eq_nil_of_le hge] at hr
   simp only [fstE] at hr
   simp [h8,hin,Nat.not_lt.2 hge,w167_0,<- hr]
def orcDel (k:Int):Nat->FuncId->List AV->AV:=fun _ f l=>if f=167 then I k else orcEm 0 0 l
theorem delete_eff (Y:YT) (l:List Sp) (hl:l.length<=1000000000) (B:List (List AV)) (L:List Nat) (st:Nat->LS) (n id:Nat) (hid:id < B.length) (hne:l≠[]) (hB:Qf B id=fl2 l) (K:AV->AM->Prop)
  (hK:∀ (B':List (List AV)) (z:List Sp),Keep (·=id) B B'->Qf B' id=fl2 (l.filter ne_++z)->(l.filter ne_).length+z.length=l.length->K (.bs id 0 (l.filter ne_).length 2) ⟨B',L,st,n⟩) :
  EffY Tryz.prog gl0 Y 142 [.bs id 0 l.length 2,.fn 132 [] []] ⟨B,L,st,n⟩ K:=by
 have hix:=indexEm_pure l hl
 have hcv:=Qae ⟨B,L,st,n⟩ 4 (fl2_ok l)
 have hch:=Qaz l
 have hlen:=Vb l
 refine Zb code142 (orcDel (fstE l 0)) (by simp) ?_
 by_cases hk:fstE l 0 = -1
 ·have hf:=fstE_neg hk
  rw [hk] at hix
  have:=hK B [] (Keep.refl _ _) (by rw [hf];simpa using hB) (by rw [hf];simp)
  rw [hf] at this
  simp [sc142,rs142,orcDel,hk,hB,hcv,hch,hlen]
  exact ⟨hix,this⟩
 ·obtain ⟨k,hk1,hk2,hk3⟩:=fstE_pos hk
  rw [Nat.zero_add] at hk1
  have hkn:¬ (k:Int) = -1:=by omega
  have hwk:=wrS k (by omega)
  rw [hk1] at hix
  simp [sc142,rs142,orcDel,hk1,hkn,hB,hcv,hch,hlen,hwk]
  refine ⟨hix,?_⟩
  refine Ql w142_0 (fun f m=>∃ (i j:Nat) (B':List (List AV)) (L':List Sp),f 5=I i/\f 6=I j/\i < j/\j<=l.length/\m=⟨B',L,st,n⟩/\Keep (·=id) B B'/\Qf B' id=fl2 L'/\L'.length=l.length/\L'.take i=(l.take j).filter ne_/\L'.drop j=l.drop j)
   (fun f m=>l.length - (numOf (f 6)).toNat) ?_ ?_
  ·exact ⟨k,k+1,B,l,by simp,by simp,by omega,by omega,rfl,Keep.refl _ _,hB,rfl,hk3.symm,rfl⟩
  ·rintro f m ⟨i,j,B',L',h5,h6,hij,hj,rfl,hkp,hB',hL',ht,hd⟩
   have hid':id < B'.length:=Nat.lt_of_lt_of_le hid hkp.1
   have hlen':=Vb L'
   rcases Nat.lt_or_ge j l.length with hlt | hge
   ·obtain ⟨s,hs⟩:=getS hlt
    have hs':L'[j]? = some s:=by
     have:=congrArg (fun x=>x[0]?) hd
     simpa [hs] using this
    have hg:=fl2_get hs'
    have hjlt:(j:Int) < (l.length:Int):=by omega
    have hilt:(i:Int) < (l.length:Int):=by omega
    have hilt':i < l.length:=by omega
    have hwj:=wrS j (by omega)
    have hwi:=wrS i (by omega)
    have hp:=empty_pure s
    have hset:=fl2_set L' i s (by omega)
    simp only [setA] at hset
    have hra:∀ x,Qf (B'++x) id=fl2 L':=fun x=>by rw [Qh hid',hB']
    have hsa:∀ x v,(B'++x).set id v=B'.set id v++x:=fun x v=>Vq v hid'
    have htk:(l.take (j+1)).filter ne_=(l.take j).filter ne_++[s].filter ne_:=by
     rw [List.take_add_one,hs,List.filter_append];rfl
    have hdj:L'.drop (j+1)=l.drop (j+1):=by
     have:=congrArg (List.drop 1) hd
     simpa [List.drop_drop,Nat.add_comm] using this
    by_cases he:s.2<=s.1
    ·have he':em s=true:=by simp [em,he]
     have hn':ne_ s=false:=by rw [ne_em,he'];rfl
     rw [he'] at hp
     simp [h5,h6,hjlt,hlt,hilt,hB',hra,hsa,hg,w142_0,orcDel,orcEm,he,hwj,hwi]
     refine ⟨hp,ag ?_,⟨i,rfl,j+1,by simp,by omega,by omega,hkp.app _,?_⟩,by omega⟩
     ·repeat (first | exact Qa _ _ | refine Qb _ rfl ?_)
     ·refine ⟨L',rfl,hL',?_,hdj⟩
      rw [htk,ht];simp [hn']
    ·have he':em s=false:=by simp [em];omega
     have hn':ne_ s=true:=by rw [ne_em,he'];rfl
     rw [he'] at hp
     simp [h5,h6,hjlt,hlt,hilt,hilt',hB',hra,hsa,hg,w142_0,orcDel,orcEm,he,hwj,hwi,hset,hlen',hL']
     refine ⟨hp,by omega,ag ?_,⟨i+1,by simp,j+1,by simp,by omega,by omega,(hkp.set (.inl rfl) _).app _,?_⟩,by omega⟩
     ·repeat (first | exact Qa _ _ | refine Qb _ rfl ?_)
     ·refine ⟨L'.set i s,by rw [Qh (by simpa using hid'),Vn _ hid'],by simpa using hL',?_,?_⟩
      ·rw [htk,<- ht,List.take_add_one,List.getElem?_set_self (by omega),List.take_set_of_le (by omega)];simp [hn']
      ·rw [List.drop_set_of_lt (by omega)];exact hdj
   ·obtain rfl:j=l.length:=by omega
    rw [List.take_length] at ht
    have hfl:(l.filter ne_).length=i:=by rw [<- ht,List.length_take];omega
    have hjn:¬ ((l.length:Nat):Int) < (l.length:Int):=by omega
    have hin:(i:Int)<=(l.length:Int):=by omega
    have hilt:(i:Int) < (l.length:Int):=by omega
    have hilt':i < l.length:=hij
    have hne':fl2 L'≠[]:=by
     intro h;have:=congrArg List.length h;rw [hlen',hL'] at this;simp at this;omega
    have hcl:setA (fl2 L') (i*2) (fills (l.length - i) [I 0,I 0])=fl2 (l.filter ne_++List.replicate (l.length - i) (0,0)):=by
     have e1:L'=L'.take i++L'.drop i:=by simp
     conv=>lhs;rw [e1]
     rw [Wd,Wd,<- ht,fl2_fills]
     have e2:(fl2 (L'.take i)).length=i*2:=by rw [Vb,List.length_take];congr 1;omega
     rw [<- e2]
     exact setA_app _ _ _ (by rw [Vb,Vb];simp;omega)
    simp [h5,h6,hjn,hB',hilt,hilt',hin,w142_0,hid',hne',hlen',hL',hcl]
    refine ⟨by omega,?_⟩
    have:=hK (B'.set id (fl2 (l.filter ne_++List.replicate (l.length - i) (0,0)))) (List.replicate (l.length - i) (0,0)) (hkp.set (.inl rfl) _) (Vn _ hid') (by simp;omega)
    rw [hfl] at this
    exact this
end Go.Proofs.YtjmgelbfndnpjaaGreatDoor
