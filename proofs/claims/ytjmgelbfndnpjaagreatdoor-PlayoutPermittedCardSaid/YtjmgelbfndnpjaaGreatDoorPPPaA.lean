import Derived.Test.YtjmgelbfndnpjaaGreatDoorPPRhB
set_option linter.unusedVariables false
set_option linter.unusedSimpArgs false
set_option maxRecDepth 100000
namespace Go.Proofs.YtjmgelbfndnpjaaGreatDoor.Lw
open Go Go.Abs
structure Pic where
 key:Bool
 data:ByteArray
 power:Int
def Vr (p:Pic):List AV:=[.bool p.key,.str p.data,I p.power]
structure Zz where
 item:Int
 pics:List Pic
def Xa (a:Zz):List AV:=[I a.item,.sl .ro (a.pics.map Vr)]
def libAV (L:List Zz):AV:=.sl .ro (L.map Xa)
def orcEq:Nat->FuncId->List AV->AV:=fun _ _ l=>match l with
 | [.agg (.int _ x::_),.ep [.int _ y] _]=>.bool (x==y)
 | _=>.junk
theorem find1_pure (x item:Int) (s:AV) (hs:ok1 s=true):Pure Tryz.prog gl0 68 [.agg [I x,s],.ep [I item] 0] (.bool (x==item)):=by
 refine Qn code68 (fun _ _ _=>.junk) (by simp) ?_
 simp [sc68,rs68,isCell_ok1 hs]
def srch (item:Int):List Zz->Nat->Int
 | [],_ => -1
 | a::r,i=>if a.item=item then i else srch item r (i+1)
theorem indexA_pure (L:List Zz) (item:Int) (hL:L.length<=1000000000):Pure Tryz.prog gl0 67 [libAV L,.fn 68 [] [.ep [I item] 0]] (I (srch item L 0)):=by
 refine Qn code67 orcEq (by simp) ?_
 simp [sc67,rs67,libAV]
 refine Ql [4,5,8,9,10,11,12,13,14,15,16,17,18] (fun f m=>∃ i:Nat,f 8=I i/\i<=L.length/\srch item (L.drop i) i=srch item L 0/\m=⟨[],[],fun _=>.gone,0⟩) (fun f m=>L.length - (numOf (f 8)).toNat) ?_ ?_
 ·exact ⟨0,by simp,by omega,by simp,rfl⟩
 ·rintro f m ⟨i,hi,hle,hs,rfl⟩
  rcases Nat.lt_or_ge i L.length with hlt | hge
  ·obtain ⟨a,ha⟩:∃ a,L[i]? = some a:=⟨L[i],List.getElem?_eq_getElem hlt⟩
   have hrow:Qf (L.map Xa) i=Xa a:=Qv (by simp [ha])
   have hw:=wrS i (by omega)
   rw [Qz ha] at hs
   have hp:=find1_pure a.item item (.sl .ro (a.pics.map Vr)) rfl
   by_cases h:a.item=item
   ·simp [srch,h] at hs
    simp [hi,hrow,hlt,Xa,orcEq,h]
    simp [h] at hp
    exact ⟨hp,hs⟩
   ·simp [srch,h] at hs
    simp [hi,hrow,hlt,Xa,orcEq,h,hw]
    refine ⟨hp,ag ?_,⟨i+1,by simp,by omega,hs⟩,by omega⟩
    repeat (first | exact Qa _ _ | refine Qb _ rfl ?_)
  ·rw [List.drop_eq_nil_of_le hge] at hs
   simp [hi,Nat.not_lt.2 hge]
   exact hs
def fnd (item:Int):List Zz->Option Zz
 | []=>none
 | a::r=>if a.item=item then some a else fnd item r
theorem srch_none {item:Int}:∀ {L:List Zz} {i:Nat},fnd item L=none->srch item L i = -1
 | [],_,_=>rfl
 | a::r,i,h=>by
  simp only [fnd] at h
  split at h
  ·cases h
  ·rename_i hn;simp only [srch,if_neg hn];exact srch_none h
theorem srch_some {item:Int} {a:Zz}:∀ {L:List Zz} {i:Nat},fnd item L=some a->∃ k:Nat,srch item L i=((i+k:Nat):Int)/\L[k]? = some a/\a.item=item
 | [],_,h=>by cases h
 | b::r,i,h=>by
  simp only [fnd] at h
  split at h
  ·rename_i hb;cases h;exact ⟨0,by simp [srch,hb],rfl,hb⟩
  ·rename_i hn
   obtain ⟨k,h1,h2,h3⟩:=srch_some (i:=i+1) h
   exact ⟨k+1,by simp only [srch,if_neg hn,h1];omega,by simpa using h2,h3⟩
def BigOK (L:List Zz):Prop:=L.length<=1000000000/\∀ a∈L,a.pics.length<=1000000000
def zeroA:AV:=.tup [.agg [I 0,.sl .nil []],.bool false]
def Qay:Option Zz->AV
 | none=>zeroA
 | some a=>.tup [.agg (Xa a),.bool true]
theorem Us (L:List Zz) (item:Int) (hL:BigOK L):Pure Tryz.prog gl0 27 [libAV L,I item] (Qay (fnd item L)):=by
 have hix:=indexA_pure L item hL.1
 refine Qn code27 (fun _ _ _=>I (srch item L 0)) (by simp) ?_
 cases hf:fnd item L with
 | none =>
  rw [srch_none hf] at hix |-
  simp [sc27,rs27,Qay,zeroA]
  exact hix
 | some a =>
  obtain ⟨k,h1,h2,h3⟩:=srch_some (i:=0) hf
  rw [h1] at hix |-
  have hlt:k < L.length:=(List.getElem?_eq_some_iff.1 h2).1
  have hrow:Qf (L.map Xa) k=Xa a:=Qv (by simp [h2])
  have hp:=hL.2 a (List.mem_of_getElem? h2)
  rw [Nat.zero_add] at hix
  simp [sc27,rs27,Qay,libAV,hlt,hrow,Xa,h3]
  refine ⟨hix,Or.inl ?_⟩
  simp [hlt,hrow,Xa,h3]
  exact ⟨fun _ _=>rfl,by omega⟩
structure Unit where
 ch:Int
 fr:Int
 ve:Int
 it:Int
 ix:Int
 key:Bool
 data:ByteArray
 re:Int
 ga:Int
 cap:ByteArray
 os:Int
 of:Int
 al:AV
def Ku (g:Int):Int:=if (4000:Int) < (if g < 250 then 250 else g) then 4000 else (if g < 250 then 250 else g)
theorem limI_bd (g:Int):250<=Ku g/\Ku g<=4000:=by unfold Ku;split<;>split<;>omega
theorem limI_id (g:Int) (h:250<=g) (h':g<=4000):Ku g=g:=by unfold Ku;split<;>split<;>omega
theorem limit_pure (g:Int):Pure Tryz.prog gl0 89 [I g] (I (Ku g)):=by
 refine Qn code89 (fun _ _ _=>.junk) (by simp) ?_
 simp [sc89,rs89,Ku]
def nxt (g t:Int):Int:=if g < t - 20 then g+20 else if t+20 < g then g - 20 else t
theorem nxt_bd (g t:Int) (h:250<=g/\g<=4000) (h':250<=t/\t<=4000):250<=nxt g t/\nxt g t<=4000:=by
 unfold nxt;split
 ·omega
 ·split<;>omega
theorem nxt_self (t:Int):nxt t t=t:=by
 unfold nxt;split
 ·omega
 ·split<;>omega
theorem next1_pure (g t:Int) (h:250<=g/\g<=4000) (h':250<=t/\t<=4000):Pure Tryz.prog gl0 90 [.agg [I t],I g] (I (nxt g t)):=by
 refine Qn code90 (fun _ _ _=>.junk) (by simp) ?_
 have w1:IntKind.i64.wrap (t - 20)=t - 20:=by rw [Qe]<;>omega
 have w2:IntKind.i64.wrap (t+20)=t+20:=by rw [Qe]<;>omega
 have w3:IntKind.i64.wrap (g+20)=g+20:=by rw [Qe]<;>omega
 have w4:IntKind.i64.wrap (g - 20)=g - 20:=by rw [Qe]<;>omega
 by_cases h1:g < t - 20
 ·simp [sc90,rs90,w1,w2,w3,w4,h1,nxt]
 ·by_cases h2:t+20 < g
  ·simp [sc90,rs90,w1,w2,w3,w4,h1,h2,nxt]
  ·simp [sc90,rs90,w1,w2,w3,w4,h1,h2,nxt]
def ramp (t:Int):Nat->Int->Int
 | 0,g=>g
 | k+1,g=>ramp t k (nxt g t)
theorem ramp_self (t:Int):∀ k,ramp t k t=t
 | 0=>rfl
 | k+1=>by rw [ramp,nxt_self];exact ramp_self t k
theorem ramp_bd (t:Int) (h':250<=t/\t<=4000):∀ k g,250<=g/\g<=4000->250<=ramp t k g/\ramp t k g<=4000
 | 0,_,h=>h
 | k+1,g,h=>ramp_bd t h' k _ (nxt_bd g t h h')
theorem ramp_pure (g t n:Int) (hn:n<=1000000000000):Pure Tryz.prog gl0 36 [I g,I t,I n] (I (ramp (Ku t) n.toNat (Ku g))):=by
 have h1:=limit_pure g
 have h2:=limit_pure t
 have bt:=limI_bd t
 obtain ⟨N,hN⟩:∃ N:Nat,n.toNat=N:=⟨_,rfl⟩
 rw [hN]
 have hmx:max n 0=(N:Int):=by omega
 have hmi:(if n < 0 then 0 else n)=(N:Int):=by split<;>omega
 refine Qn code36 (fun _ f l=>match f,l with
  | 89,[.int _ a]=>I (Ku a)
  | 90,[.agg [.int _ b],.int _ a]=>I (nxt a b)
  | _,_=>.junk) (by simp) ?_
 simp [sc36,rs36,hmx,hmi]
 refine ⟨h1,h2,?_⟩
 refine Ql [0,18,19,20,21,22,23,24,25,26,27] (fun f m=>∃ (i:Nat) (a:Int),i<=N/\f 18=I i/\f 0=I a/\(250<=a/\a<=4000)/\ramp (Ku t) (N - i) a=ramp (Ku t) N (Ku g)/\m=⟨[[I (Ku t)]],[],fun _=>.gone,0⟩) (fun f m=>N - (numOf (f 18)).toNat) ?_ ?_
 ·exact ⟨0,Ku g,by omega,by simp,by simp,limI_bd g,by simp,rfl⟩
 ·rintro f m ⟨i,a,hi,h18,h0,hb,hr,rfl⟩
  by_cases hin:i=N
  ·have hlt:¬ i < N:=by omega
   rw [hin] at hr
   simp [ramp] at hr
   simp [h18,h0,hlt,hin,hr,hmx,hmi]
  ·have hlt:i < N:=by omega
   by_cases ha:a=Ku t
   ·have:ramp (Ku t) (N - i) a=Ku t:=by rw [ha];exact ramp_self _ _
    rw [this] at hr
    simp [h18,h0,hlt,ha,<- hr,hmx,hmi]
   ·have hw:=wrS i (by omega)
    have h3:=next1_pure a (Ku t) hb bt
    have hs:N - i=(N - (i+1))+1:=by omega
    rw [hs,ramp] at hr
    simp [h18,h0,hlt,ha,hw,hmx,hmi]
    refine ⟨h3,ag ?_,⟨i+1,by omega,by simp,nxt_bd a _ hb bt,hr⟩,by omega⟩
    repeat (first | exact Qa _ _ | refine Qb _ rfl ?_)
theorem power1_pure (p:Pic):Pure Tryz.prog gl0 127 [.agg (Vr p)] (I p.power):=by
 refine Qn code127 (fun _ _ _=>.junk) (by simp) ?_
 simp [sc127,rs127,Vr]
def Uo (l:List Pic):AV:=.sl .ro (l.map fun p=>[I p.power])
theorem column_pure (l:List Pic) (hl:l.length<=1000000000):Pure Tryz.prog gl0 126 [.sl .ro (l.map Vr),.fn 127 [] []] (Uo l):=by
 refine Qn code126 (fun _ _ a=>match a with | [.agg [_,_,x]]=>x | _=>.junk) (by simp) ?_
 simp [sc126,rs126]
 refine ⟨by omega,?_⟩
 refine Ql [4,5,7,13,14,15,16,17,18,19,20,21,22,23] (fun f m=>∃ (i:Nat) (B:List (List AV)),i<=l.length/\f 13=I i/\f 5=.sl (.own 0 1) ((l.take i).map fun p=>[I p.power])/\m=⟨B,[i],fun _=>.gone,0⟩) (fun f m=>l.length - (numOf (f 13)).toNat) ?_ ?_
 ·exact ⟨0,[],by omega,by simp,by simp,rfl⟩
 ·rintro f m ⟨i,B,hi,h13,h5,rfl⟩
  rcases Nat.lt_or_ge i l.length with hlt | hge
  ·obtain ⟨p,hp⟩:=getS hlt
   have hrow:Qf (l.map Vr) i=Vr p:=Qv (by simp [hp])
   have hw:=wrS i (by omega)
   have hp1:Pure Tryz.prog gl0 127 [.agg [.bool p.key,.str p.data,I p.power]] (I p.power):=power1_pure p
   have htk:l.take (i+1)=l.take i++[p]:=by rw [List.take_add_one,hp];rfl
   have hmin:min i l.length=i:=by omega
   simp [h13,h5,hlt,hrow,Vr,hw,hmin]
   refine ⟨hp1,⟨fun r hr=>?_,by omega⟩,ag ?_,⟨i+1,by omega,by simp,by rw [<- List.map_take,<- List.map_take,htk];simp⟩,by omega⟩
   ·rcases hr with h | h
    ·have:=List.mem_of_mem_take h
     simp at this
     obtain ⟨_,_,rfl⟩:=this
     rfl
    ·rw [h];rfl
   repeat (first | exact Qa _ _ | refine Qb _ rfl ?_)
  ·have:i=l.length:=by omega
   subst this
   simp [h13,h5,Uo]
theorem powers_pure (a:Zz) (h:a.pics.length<=1000000000):Pure Tryz.prog gl0 88 [.agg (Xa a)] (Uo a.pics):=by
 have hc:=column_pure a.pics h
 refine Qn code88 (fun _ _ _=>Uo a.pics) (by simp) ?_
 simp [sc88,rs88,Xa,Uo]
 exact hc
end Go.Proofs.YtjmgelbfndnpjaaGreatDoor.Lw
