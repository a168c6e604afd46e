import Derived.Test.YtjmgelbfndnpjaaGreatDoorPPMS
set_option linter.unusedVariables false
set_option linter.unusedSimpArgs false
set_option maxRecDepth 100000
set_option maxHeartbeats 64000000
namespace Go.Proofs.YtjmgelbfndnpjaaGreatDoor
open Go Go.Abs
theorem nodup_le {l:List Nat} {n:Nat} (h:l.Nodup) (hb:∀ i∈l,i < n):l.length<=n:=by
 have hp:l.Perm ((List.range n).filter fun i=>decide (i∈l)):=by
  rw [List.perm_ext_iff_of_nodup h (List.nodup_range.filter _)]
  intro i
  simp only [List.mem_filter,List.mem_range,decide_eq_true_eq]
  exact ⟨fun hi=>⟨hb i hi,hi⟩,fun hi=>hi.2⟩
 rw [hp.length_eq]
 refine Nat.le_trans (List.length_filter_le _ _) ?_
 simp
def seenN (id:Nat) (m:AM):Nat:=match Qf m.boxes id with
 | [.mitr _ _ s]=>s.length
 | _=>0
theorem kvA_get {α:Type} {row:α->AV} {L:List (Int×α)} {i:Nat} {k:List Int} {c:AV} (h:(kvA row L)[i]? = some (k,c)):∃ o x,L[i]? = some (o,x)/\k=[o]/\c=row x/\(kvA row L).getD i ([],.junk)=([o],row x)/\i < L.length:=by
 have hg:(kvA row L).getD i ([],.junk)=(k,c):=by rw [List.getD_eq_getElem?_getD,h];rfl
 rw [kvA,List.getElem?_map] at h
 cases hL:L[i]? with
 | none=>rw [hL] at h;cases h
 | some y =>
  rw [hL] at h
  cases h
  exact ⟨y.1,y.2,rfl,rfl,rfl,hg,(List.getElem?_eq_some_iff.1 hL).1⟩
theorem pickR_snoc (p:Pl) (it:Int) (L:List (Int×Int)) (o x:Int):pickR p it (L++[(o,x)])=if 0 < Ua p x it then pickR p it L++[(o,Ua p x it)] else pickR p it L:=by
 unfold pickR
 rw [List.filterMap_append]
 by_cases h:0 < Ua p x it
 ·rw [if_pos h];simp [h]
 ·rw [if_neg h];simp [h]
theorem vcNxt_intro {m:AM} {K:AV->AM->Prop} {id mid n kn:Nat} {seen:List Nat} {kvs:List (List Int×AV)} (h1:Qf m.boxes id=[.mitr mid n seen]) (h2:Qf m.boxes mid=[.mobj kn kvs]) (h:kvs.length=n)
  (hs:∀ i k c,kvs[i]? = some (k,c)->i ∉ seen->K (.tup [.bool true,keyAV kn k,c]) { m with boxes:=m.boxes.set id [.mitr mid n (seen++[i])] }) (he:(∀ i,i < n->i∈seen)->K (.tup [.bool false]) m):vcNxt m K (.it id):=by
 simp only [vcNxt,Zq,h1,h2]
 exact ⟨h,hs,he⟩
def orcRv (p:Pl) (it:Int):Nat->FuncId->List AV->AV:=fun _ f l=>if f=105 then (match l with | [_,.int _ x,_]=>I (Ua p x it) | _=>.junk) else .junk
def InvRv (pre:List (List AV)) (b:Bd) (post:List (List AV)) (ls:List Nat) (it:Int) (f:Nat->AV) (m:AM):Prop:=∃ (seen:List Nat) (l:List Sp) (rt:Rt) (exl:List Nat),
 seen.Nodup/\(∀ i∈seen,i < (Vz b.p).length)/\l=pickR b.p it (atL (0,0) (Vz b.p) seen)/\f 8=.sl rt (l.map Qd)/\(l=[]/\rt=.nil/\exl=[]\/l≠[]/\rt=.own ls.length 2/\exl=[l.length]) /\
 m=mBd pre b (post++[[.mitr (pre.length+3) (Vz b.p).length seen]]) (ls++exl)
theorem rivals83 (pre post:List (List AV)) (ls:List Nat) (b:Bd) (it:Int) (hc:b.p.cls.length<=1000000000) (hit:b.p.its.length<=1000000000) (hsn:(Vz b.p).length<=1000000000) (hrv:RvOK b) (Y:YT) (K:AV->AM->Prop)
  (hK:∀ (rv:List (Int×(Rt×List Sp))) (ex:List (List AV)) (exl:List Nat) (rt:Rt) (l:List Sp),RvOK { b with rv:=rv }->l.Perm (Wx b.p it)->K (.sl rt (l.map Qd)) (mBd pre { b with rv:=rv } (post++ex) (ls++exl))) :
  EffY Tryz.prog gl0 Y 52 [.ptr (pre.length+9) 0,I it] (mBd pre b post ls) K:=by
 have nil:Wx b.p it=[]->K (.sl .nil []) (mBd pre b post ls):=fun h=>by
  have:=hK b.rv [] [] .nil [] hrv (by rw [h])
  simpa using this
 refine Zb code52 (orcRv b.p it) (by simp) ?_
 have hitm:∃ r,Qx [it] (kvA itA (itsS b.p)) 0=r/\((∃ n y,Xe it b.p.its=some y/\r=some (n,itA y))\/(Xe it b.p.its=none/\r=none)):=by
  rcases Zk itA it (itsS b.p) 0 with ⟨h1,h2,_,_⟩ | ⟨u,n,h1,h2,_⟩
  ·rw [itsS_af] at h1
   exact ⟨_,rfl,.inr ⟨h1,h2⟩⟩
  ·rw [itsS_af] at h1
   exact ⟨_,rfl,.inl ⟨_,u,h1,h2⟩⟩
 obtain ⟨r,hr,hrr⟩:=hitm
 rcases hrr with ⟨n,y,hf,rfl⟩ | ⟨hf,rfl⟩
 ·rcases Zk iA y.sp (Vz b.p) 0 with ⟨s1,s2,_,_⟩ | ⟨su,sn,s1,s2,_⟩
  ·simp [sc52,rs52,mBd,bdL,Qk,Qc,hr,itA,Qg,s2]
   exact nil (by simp [Wx,hf,s1])
  ·have hrl:Wx b.p it=pickR b.p it (Vz b.p):=by simp [Wx,hf,s1,pickR]
   rcases Zk rvA y.sp b.rv 0 with ⟨m1,m2,_,m4⟩ | ⟨mu,mn,m1,m2,_⟩
   ·simp [sc52,mBd,bdL,Qk,Qc,hr,itA,Qg,s2,m2]
    refine Ql w52_0 (InvRv pre b post ls it) (fun _ m=>(Vz b.p).length - seenN (pre.length+(post.length+10)) m) ?_ ?_
    ·exact ⟨[],[],.nil,[],List.nodup_nil,by simp,rfl,by simp,.inl ⟨rfl,rfl,rfl⟩,by simp [mBd,bdL,Qk,Qc]⟩
    ·rintro f m ⟨seen,l,rt,exl,hn,hb,hl,h8,hrt,rfl⟩
     have hsl:seen.length<=(Vz b.p).length:=nodup_le hn hb
     simp [-vcNxt,mBd,bdL,Qk,Qc,w52_0]
     refine vcNxt_intro (mid:=pre.length+3) (n:=(Vz b.p).length) (kn:=0) (seen:=seen) (kvs:=kvA iA (Vz b.p)) ?_ ?_ ?_ (fun i k c hi hns=>?_) fun hall=>?_
     ·simp
     ·simp
     ·simp
     ·obtain ⟨o,x,hx,rfl,rfl,hgd,hlt⟩:=kvA_get hi
      have hge:(kvA iA (Vz b.p))[i]'(by simpa using hlt)=([o],iA x):=by
       have:=List.getElem?_eq_some_iff.1 hi
       exact this.2
      have k135:=gap135 b.p x it hc hit
      have hn':(seen++[i]).Nodup:=List.nodup_append.2 ⟨hn,by simp,fun a ha c hc=>by simp at hc;subst hc;rintro rfl;exact hns ha⟩
      have hb':∀ j∈seen++[i],j < (Vz b.p).length:=fun j hj=>by
       rcases List.mem_append.1 hj with h | h
       ·exact hb j h
       ·simp at h;subst h;exact hlt
      have hle:seen.length+1<=(Vz b.p).length:=by simpa using nodup_le hn' hb'
      have hxo:(Vz b.p).getD i (0,0)=(o,x):=by rw [List.getD_eq_getElem?_getD,hx];rfl
      have hat:atL (0,0) (Vz b.p) (seen++[i])=atL (0,0) (Vz b.p) seen++[(o,x)]:=by
       simp only [atL,List.map_append,List.map_cons,List.map_nil,hxo]
      have hpk:=pickR_snoc b.p it (atL (0,0) (Vz b.p) seen) o x
      rw [<- hat,<- hl] at hpk
      by_cases hg:0 < Ua b.p x it
      ·rw [if_pos hg] at hpk
       have hll:l.length<=(Vz b.p).length:=by
        rw [hl]
        refine Nat.le_trans (List.length_filterMap_le _ _) ?_
        simp only [atL,List.length_map];exact hsl
       rcases hrt with ⟨rfl,rfl,rfl⟩ | ⟨hl0,rfl,rfl⟩
       ·simp [keyAV,hi,hge,hlt,orcRv,hg,h8,w52_0,seenN]
        refine ⟨by simpa [Qc] using k135,ag ?_,⟨seen++[i],_,_,[1],hn',hb',rfl,by simp [hpk,Qd],.inr ⟨by simp [hpk],rfl,by simp [hpk]⟩,by simp [mBd,bdL,Qk,Qc]⟩,by omega⟩
        repeat (first | exact Qa _ _ | refine Qb _ rfl ?_)
       ·simp [keyAV,hi,hge,hlt,orcRv,hg,h8,w52_0,seenN]
        refine ⟨by simpa [Qc] using k135,⟨?_,by omega⟩,ag ?_,⟨seen++[i],_,_,[l.length+1],hn',hb',rfl,by simp [hpk,Qd],.inr ⟨by simp [hpk],rfl,by simp [hpk]⟩,by simp [mBd,bdL,Qk,Qc]⟩,by omega⟩
        ·rintro row (⟨a,b,_,rfl⟩ | rfl)<;>rfl
        ·repeat (first | exact Qa _ _ | refine Qb _ rfl ?_)
      ·rw [if_neg hg] at hpk
       simp [keyAV,hi,hge,hlt,orcRv,hg,h8,w52_0,seenN]
       refine ⟨by simpa [Qc] using k135,ag ?_,⟨seen++[i],l,rt,exl,hn',hb',hpk.symm,by simp [h8],hrt,by simp [mBd,bdL,Qk,Qc]⟩,by omega⟩
       repeat (first | exact Qa _ _ | refine Qb _ rfl ?_)
     ·have hpm:l.Perm (Wx b.p it):=by
       rw [hl,hrl]
       exact (at_perm _ _ _ hn hall hb).filterMap _
      have hrv':RvOK { b with rv:=aset y.sp (rt,l) b.rv }:=fun k x h it' y' hf' hsp=>by
       rw [Wh] at h
       split at h
       ·rename_i e
        cases h
        rw [rivL_sp hf' hf (by rw [hsp,e])]
        exact hpm
       ·exact hrv k x h it' y' hf' hsp
      have:=hK _ [[.mitr (pre.length+3) (Vz b.p).length seen]] exl rt l hrv' hpm
      have m4':kvA rvA b.rv++[([y.sp],.sl rt (l.map Qd))]=kvA rvA (aset y.sp (rt,l) b.rv):=m4 (rt,l)
      simp [h8,m2,rs52]
      rw [m4']
      simpa [mBd,bdL,Qk,Qc] using this
   ·simp [sc52,rs52,mBd,bdL,Qk,Qc,hr,itA,Qg,s2,m2,rvA]
    have:=hK b.rv [] [] mu.1 mu.2 hrv (hrv _ _ m1 it y hf rfl)
    simpa [mBd,bdL,Qk,Qc] using this
 ·have s2:Qx [0] (kvA iA (Vz b.p)) 0=none:=by
   rcases Zk iA 0 (Vz b.p) 0 with ⟨_,s2,_,_⟩ | ⟨su,sn,s1,_⟩
   ·exact s2
   ·rw [Vz,spn_zero _ _ _ rfl] at s1;cases s1
  simp [sc52,rs52,mBd,bdL,Qk,Qc,hr,s2]
  exact nil (by simp [Wx,hf])
open Go Go.Abs
def mBx (pre:List (List AV)) (p:Pl) (at_:Int) (pl:List (Int×Int)) (im:List (Int×It)) (sp:List (Int×Int)) (post:List (List AV)) (ls:List Nat):AM :=
 ⟨pre++(Qc p::[.mobj 0 (kvA iA pl)]::[.mobj 0 (kvA itA im)]::[.mobj 0 (kvA iA sp)]::[.mobj 0 []]::[.mobj 0 []]::[.mobj 0 []]::[.mobj 0 []]::[.mobj 2 []]::Qk pre.length ⟨p,at_,[],[],[],[],[]⟩::post),ls,fun _=>.gone,0⟩
def InvP (pre:List (List AV)) (p:Pl) (at_:Int) (ls:List Nat) (f:Nat->AV) (m:AM):Prop:=∃ (i:Nat) (pl:List (Int×Int)) (post:List (List AV)),f 36=I i/\i<=p.ens.length/\plcG (p.ens.drop i) i pl=plcS p/\m=mBx pre p at_ pl [] [] post ls
def InvI (pre:List (List AV)) (p:Pl) (at_:Int) (ls:List Nat) (f:Nat->AV) (m:AM):Prop:=∃ (i:Nat) (im:List (Int×It)) (sp:List (Int×Int)) (post:List (List AV)),f 67=I i/\i<=p.its.length/\itsG (p.its.drop i) im=itsS p/\spnG (p.its.drop i) im sp=Vz p/\m=mBx pre p at_ (plcS p) im sp post ls
def InvN (pre:List (List AV)) (p:Pl) (at_:Int) (past:List Ad) (ls:List Nat) (f:Nat->AV) (m:AM):Prop:=∃ (i:Nat) (us en:List (Int×Int)) (post:List (List AV)),f 108=I i/\i<=past.length/\UsOK i us/\pastU (past.drop i) us=pastU past []/\pastE p (past.drop i) en=pastE p past []/\m=mBd pre ⟨p,at_,us,en,[],[],[]⟩ post ls
def Jp:Nat->FuncId->List AV->AV:=fun _ f _=>if f=999999 then .junk else .gd false .junk
theorem newBoard41 (pre:List (List AV)) (ls:List Nat) (p:Pl) (at_:Int) (past:List Ad) (rtp:Rt) (hen:p.ens.length<=1000000000) (hit:p.its.length<=1000000000) (hpa:past.length<=1000000000) (Y:YT) (K:AV->AM->Prop)
  (hK:∀ ex,K (.ptr (pre.length+9) 0) (mBd pre ⟨p,at_,pastU past [],pastE p past [],[],[],[]⟩ ex ls)) :
  EffY Tryz.prog gl0 Y 19 [.agg (Qc p),I at_,.sl rtp (past.map adRow)] ⟨pre,ls,fun _=>.gone,0⟩ K:=by
 refine Zb code19 Jp (by simp) ?_
 simp [sc19,Qc,Jp]
 refine Ql w19_0 (InvP pre p at_ ls) (fun f _=>p.ens.length - (numOf (f 36)).toNat) ?_ ?_
 ·exact ⟨0,[],[],by simp,by omega,rfl,by simp [mBx,Qk,Qc]⟩
 ·rintro f m ⟨i,pl,post,h36,hi,hpl,rfl⟩
  rcases Nat.lt_or_ge i p.ens.length with hlt | hge
  ·obtain ⟨e,he⟩:=getS hlt
   have hrow:=enRow_row he
   have hilt:(i:Int) < (p.ens.length:Int):=by omega
   have hw:=wrS i (by omega)
   rw [Qz he,plcG] at hpl
   rcases Zk iA e.id pl 0 with ⟨h1,h2,_,h4⟩ | ⟨u,n,h1,h2,_⟩
   ·rw [h1] at hpl
    have h4':kvA iA pl++[([e.id],I i)]=kvA iA (aset e.id (i:Int) pl):=h4 _
    simp [h36,hlt,hilt,hrow,Qi,mBx,Qk,Qc,h2,w19_0,hw]
    refine ⟨ag ?_,⟨i+1,_,post++[Qi e],by simp,by omega,hpl,?_⟩,by omega⟩
    ·repeat (first | exact Qa _ _ | refine Qb _ rfl ?_)
    ·rw [h4'];simp [mBx,Qk,Qc,Qi]
   ·rw [h1] at hpl
    simp [h36,hlt,hilt,hrow,Qi,mBx,Qk,Qc,h2,w19_0,hw]
    refine ⟨ag ?_,⟨i+1,pl,post++[Qi e],by simp,by omega,hpl,by simp [mBx,Qk,Qc,Qi]⟩,by omega⟩
    repeat (first | exact Qa _ _ | refine Qb _ rfl ?_)
  ·have hin:¬ (i:Int) < (p.ens.length:Int):=by omega
   rw [List.drop_eq_nil_of_le hge,plcG] at hpl
   subst hpl
   simp [h36,hin,Nat.not_lt.2 hge,w19_0,mBx,Qk,Qc,Jp]
   refine Ql w19_1 (InvI pre p at_ ls) (fun f _=>p.its.length - (numOf (f 67)).toNat) ?_ ?_
   ·exact ⟨0,[],[],post,by simp,by omega,rfl,rfl,by simp [mBx,Qk,Qc]⟩
   ·clear hge hin hi h36
    rintro g m ⟨i,im,sp,post,h67,hi,him,hsp,rfl⟩
    rcases Nat.lt_or_ge i p.its.length with hlt | hge
    ·obtain ⟨x,hx⟩:=getS hlt
     have hrow:Qf (p.its.map Qg) i=Qg x:=Qv (by simp [hx])
     have hilt:(i:Int) < (p.its.length:Int):=by omega
     have hw:=wrS i (by omega)
     rw [Qz hx,itsG] at him
     rw [Qz hx,spnG] at hsp
     simp [h67,hlt,hilt,hrow,Qg,mBx,Qk,Qc,w19_1,hw,Jp]
     refine Kj ?_
     rcases Zk itA x.id im 0 with ⟨h1,h2,_,h4⟩ | ⟨u,n,h1,h2,_⟩
     ·rw [h1] at him hsp
      have h4':kvA itA im++[([x.id],.agg [I x.id,I x.ki,I x.fr,I x.sp,I x.ra])]=kvA itA (aset x.id x im):=h4 x
      simp only at him hsp
      by_cases s1:1<=x.sp
      ·by_cases s2:x.sp<=200
       ·rw [if_pos ⟨s1,s2⟩] at hsp
        rcases Zk iA x.sp sp 0 with ⟨_,q2,_,q4⟩ | ⟨u,n,_,q2,_,_,_,q4⟩
        ·have q4':kvA iA sp++[([x.sp],I x.id)]=kvA iA (aset x.sp x.id sp):=q4 _
         simp [h67,hlt,hilt,hrow,Qg,mBx,Qk,Qc,w19_1,hw,Jp,h2,s1,s2,q2]
         refine ⟨ag ?_,⟨i+1,aset x.id x im,aset x.sp x.id sp,post++[Qg x,[I 0,I 0,I 0,I 0,I 0]],by simp,by omega,him,hsp,?_⟩,by omega⟩
         ·repeat (first | exact Qa _ _ | refine Qb _ rfl ?_)
         ·rw [h4',q4'];simp [mBx,Qk,Qc,Qg]
        ·have q4':(kvA iA sp).set n ([x.sp],I x.id)=kvA iA (aset x.sp x.id sp):=q4 _
         rw [Nat.zero_add] at q2
         simp [h67,hlt,hilt,hrow,Qg,mBx,Qk,Qc,w19_1,hw,Jp,h2,s1,s2,q2]
         refine ⟨ag ?_,⟨i+1,aset x.id x im,aset x.sp x.id sp,post++[Qg x,[I 0,I 0,I 0,I 0,I 0]],by simp,by omega,him,hsp,?_⟩,by omega⟩
         ·repeat (first | exact Qa _ _ | refine Qb _ rfl ?_)
         ·rw [h4',q4'];simp [mBx,Qk,Qc,Qg]
       ·rw [if_neg (fun h=>s2 h.2)] at hsp
        simp [h67,hlt,hilt,hrow,Qg,mBx,Qk,Qc,w19_1,hw,Jp,h2,s1,s2]
        refine ⟨ag ?_,⟨i+1,aset x.id x im,sp,post++[Qg x,[I 0,I 0,I 0,I 0,I 0]],by simp,by omega,him,hsp,?_⟩,by omega⟩
        ·repeat (first | exact Qa _ _ | refine Qb _ rfl ?_)
        ·rw [h4'];simp [mBx,Qk,Qc,Qg]
      ·rw [if_neg (fun h=>s1 h.1)] at hsp
       simp [h67,hlt,hilt,hrow,Qg,mBx,Qk,Qc,w19_1,hw,Jp,h2,s1]
       refine ⟨ag ?_,⟨i+1,aset x.id x im,sp,post++[Qg x,[I 0,I 0,I 0,I 0,I 0]],by simp,by omega,him,hsp,?_⟩,by omega⟩
       ·repeat (first | exact Qa _ _ | refine Qb _ rfl ?_)
       ·rw [h4'];simp [mBx,Qk,Qc,Qg]
     ·rw [h1] at him hsp
      simp [h67,hlt,hilt,hrow,Qg,mBx,Qk,Qc,w19_1,hw,Jp,h2,itA]
      refine ⟨ag ?_,⟨i+1,im,sp,post++[Qg x,Qg u],by simp,by omega,him,hsp,by simp [mBx,Qk,Qc,Qg]⟩,by omega⟩
      repeat (first | exact Qa _ _ | refine Qb _ rfl ?_)
    ·have hin:¬ (i:Int) < (p.its.length:Int):=by omega
     rw [List.drop_eq_nil_of_le hge] at him hsp
     have him:im=itsS p:=him
     have hsp:sp=Vz p:=hsp
     subst him;subst hsp
     simp [h67,hin,Nat.not_lt.2 hge,w19_1,mBx,Qk,Qc,Jp]
     refine Ql w19_2 (InvN pre p at_ past ls) (fun f _=>past.length - (numOf (f 108)).toNat) ?_ ?_
     ·exact ⟨0,[],[],post,by simp,by omega,fun k v h=>(by cases h),rfl,rfl,by simp [mBd,bdL,Qk,Qc,pmA]⟩
     ·clear hge hin hi h67
      rintro h m ⟨i,us,en,post,h108,hi,hus,hu,he,rfl⟩
      rcases Nat.lt_or_ge i past.length with hlt | hge
      ·obtain ⟨a,ha⟩:=getS hlt
       have hrow:Qf (past.map adRow) i=adRow a:=Qv (by simp [ha])
       have hilt:(i:Int) < (past.length:Int):=by omega
       have hw:=wrS i (by omega)
       rw [Qz ha,pastU] at hu
       rw [Qz ha,pastE] at he
       have hus1:UsOK (i+1:Nat) us:=fun k v h=>by have:=hus k v h;omega
       have skip:cntA a=false->pastU (past.drop (i+1)) us=pastU past []/\pastE p (past.drop (i+1)) en=pastE p past []:=fun h=>by
        rw [h] at hu he
        exact ⟨hu,he⟩
       by_cases c1:a.re=0
       ·by_cases c2:0<=a.fr
        ·by_cases c3:a.fr<=100000000
         ·by_cases c4:1<=a.fs
          ·by_cases c5:a.fs<=100000000
           ·have hc:cntA a=true:=by simp [cntA];omega
            rw [hc] at hu he
            simp only [if_true] at hu he
            have hwa:IntKind.i64.wrap (a.fr+a.fs)=a.fr+a.fs:=by rw [Qe]<;>omega
            simp [h108,hlt,hilt,hrow,adRow,mBd,bdL,Qk,Qc,w19_2,hw,Jp,c1,c2,c3,c4,c5,hwa]
            have kn:=note80b pre (post++[adRow a]) ls ⟨p,at_,us,en,[],[],[]⟩ us en a.it (a.fr+a.fs) (fun k v h=>by have:=hus k v h;omega) Y
            simp only [mBd,bdL,Qk,Qc,adRow,c1] at kn
            refine kn _ fun ex=>?_
            simp [h108,w19_2,hw]
            refine ⟨ag ?_,⟨i+1,Yy us a.it,Zy p en a.it (a.fr+a.fs),post++[[I a.it,I 0,I a.fr,I a.fs]]++ex,by simp,by omega,?_,hu,he,by simp [mBd,bdL,Qk,Qc]⟩,by omega⟩
            ·repeat (first | exact Qa _ _ | refine Qb _ rfl ?_)
            ·have:=hus.note (by omega) a.it
             exact this
           ·obtain ⟨hu,he⟩:=skip (by simp [cntA];omega)
            simp [h108,hlt,hilt,hrow,adRow,mBd,bdL,Qk,Qc,w19_2,hw,Jp,c1,c2,c3,c4,c5]
            refine ⟨ag ?_,⟨i+1,us,en,post++[[I a.it,I 0,I a.fr,I a.fs]],by simp,by omega,hus1,hu,he,by simp [mBd,bdL,Qk,Qc]⟩,by omega⟩
            repeat (first | exact Qa _ _ | refine Qb _ rfl ?_)
          ·obtain ⟨hu,he⟩:=skip (by simp [cntA];omega)
           simp [h108,hlt,hilt,hrow,adRow,mBd,bdL,Qk,Qc,w19_2,hw,Jp,c1,c2,c3,c4]
           refine ⟨ag ?_,⟨i+1,us,en,post++[[I a.it,I 0,I a.fr,I a.fs]],by simp,by omega,hus1,hu,he,by simp [mBd,bdL,Qk,Qc]⟩,by omega⟩
           repeat (first | exact Qa _ _ | refine Qb _ rfl ?_)
         ·obtain ⟨hu,he⟩:=skip (by simp [cntA];omega)
          simp [h108,hlt,hilt,hrow,adRow,mBd,bdL,Qk,Qc,w19_2,hw,Jp,c1,c2,c3]
          refine ⟨ag ?_,⟨i+1,us,en,post++[[I a.it,I 0,I a.fr,I a.fs]],by simp,by omega,hus1,hu,he,by simp [mBd,bdL,Qk,Qc]⟩,by omega⟩
          repeat (first | exact Qa _ _ | refine Qb _ rfl ?_)
        ·obtain ⟨hu,he⟩:=skip (by simp [cntA];omega)
         simp [h108,hlt,hilt,hrow,adRow,mBd,bdL,Qk,Qc,w19_2,hw,Jp,c1,c2]
         refine ⟨ag ?_,⟨i+1,us,en,post++[[I a.it,I 0,I a.fr,I a.fs]],by simp,by omega,hus1,hu,he,by simp [mBd,bdL,Qk,Qc]⟩,by omega⟩
         repeat (first | exact Qa _ _ | refine Qb _ rfl ?_)
       ·obtain ⟨hu,he⟩:=skip (by simp [cntA,c1])
        simp [h108,hlt,hilt,hrow,adRow,mBd,bdL,Qk,Qc,w19_2,hw,Jp,c1]
        refine ⟨ag ?_,⟨i+1,us,en,post++[[I a.it,I a.re,I a.fr,I a.fs]],by simp,by omega,hus1,hu,he,by simp [mBd,bdL,Qk,Qc]⟩,by omega⟩
        repeat (first | exact Qa _ _ | refine Qb _ rfl ?_)
      ·have hin:¬ (i:Int) < (past.length:Int):=by omega
       rw [List.drop_eq_nil_of_le hge] at hu he
       have hu:us=pastU past []:=hu
       have he:en=pastE p past []:=he
       subst hu;subst he
       simp [h108,hin,Nat.not_lt.2 hge,w19_2,rs19]
       simpa [mBd,bdL,Qk,Qc,pmA] using hK post
open Go Go.Abs
def BdOK (b:Bd):Prop:=LiOK b/\RvOK b/\PmOK b
def OutR {α:Type} (sz:Nat) (lo:Nat) (ls:List Nat) (rt:Rt) (l:List α):Prop:=(l=[]/\rt=.nil)\/∃ k,rt=.own k sz/\lo<=k/\ls[k]? = some l.length/\l≠[]
theorem OutR.app {α:Type} {sz lo:Nat} {ls exl:List Nat} {rt:Rt} {l:List α} (h:OutR sz lo ls rt l):OutR sz lo (ls++exl) rt l:=by
 rcases h with h | ⟨k,h1,h2,h3,h4⟩
 ·exact .inl h
 ·exact .inr ⟨k,h1,h2,by rw [List.getElem?_append_left (List.getElem?_eq_some_iff.1 h3).1];exact h3,h4⟩
theorem gapS_bd (p:Pl) (a b:Int):0<=Ua p a b/\Ua p a b<=6000000000:=by
 unfold Ua
 cases Xe a p.its with
 | none=>simp
 | some x =>
  cases Xe b p.its with
  | none=>simp
  | some y =>
   simp only
   split
   ·omega
   ·rename_i h
    simp only [not_or] at h
    have hv:Zh p.nu p.de=true:=by simpa using h.2.1
    obtain ⟨v1,v2,v3,v4,v5⟩:=Yu hv
    have hg:=gapC_bd x.sp y.sp p.cls 0 (by omega)
    generalize gapC x.sp y.sp p.cls 0=g at hg
    rw [Kv,if_pos ⟨hv,by omega,by omega⟩]
    have hp:=prod_bd hg ⟨(by omega:0<=p.nu),v2⟩
    have:=tdiv_bd (x:=g*p.nu+p.de - 1) (y:=p.de) (by omega) (by omega)
    omega
theorem rivL_bd {p:Pl} {it:Int}:∀ r∈Wx p it,0<=r.2/\r.2<=6000000000:=fun r hr=>by
 unfold Wx at hr
 cases hf:Xe it p.its with
 | none=>rw [hf] at hr;cases hr
 | some y =>
  rw [hf] at hr
  simp only at hr
  cases ha:af y.sp (Vz p) with
  | none=>rw [ha] at hr;cases hr
  | some _ =>
   rw [ha] at hr
   simp only [List.mem_filterMap] at hr
   obtain ⟨x,_,hx⟩:=hr
   split at hx
   ·cases hx;exact gapS_bd p _ _
   ·cases hx
theorem rivL_len (p:Pl) (it:Int):(Wx p it).length<=(Vz p).length:=by
 unfold Wx
 cases Xe it p.its with
 | none=>simp
 | some y =>
  simp only
  cases af y.sp (Vz p) with
  | none=>simp
  | some _=>exact List.length_filterMap_le _ _
def EnOK (en:List (Int×Int)):Prop:=∀ k v,af k en=some v->0<=v/\v<=1000000000
theorem EnOK.note {p:Pl} {en:List (Int×Int)} (h:EnOK en) (it e:Int) (he:0<=e/\e<=1000000000):EnOK (Zy p en it e):=fun k v hk=>by
 unfold Zy at hk
 cases hf:Xe it p.its with
 | none=>rw [hf] at hk;exact h k v hk
 | some x =>
  rw [hf] at hk
  simp only [Wh] at hk
  split at hk
  ·cases hk
   cases ha:af x.sp en with
   | none=>simp;omega
   | some u=>have:=h _ u ha;simp;omega
  ·exact h k v hk
theorem fromL_bd {en:List (Int×Int)} (h:EnOK en):∀ {l:List Sp} {f M:Int},(∀ r∈l,0<=r.2/\r.2<=6000000000)->f<=M->7000000000<=M->Jt en l f<=M
 | [],f,M,_,h1,_=>h1
 | r::l,f,M,hl,h1,h2=>by
  rw [Jt]
  refine fromL_bd h (fun x hx=>hl x (by simp [hx])) ?_ h2
  have:=hl r (by simp)
  cases ha:af r.1 en with
  | none=>exact h1
  | some e=>have:=h _ e ha;simp only;omega
def conT (l:List Sp):Option (List Sp)->Option (List Sp)
 | none=>none
 | some r=>some (l++r)
def InvEar (pre post:List (List AV)) (ls:List Nat) (b:Bd) (ids:List Int) (N:Int) (T:Option (List Sp)) (f:Nat->AV) (m:AM):Prop :=
 ∃ (i:Nat) (us en:List (Int×Int)) (free last:Int) (l:List Sp) (rt:Rt) (rv:List (Int×(Rt×List Sp))) (li:List (Int×Int)) (pm:List ((Int×Int)×List Sp)) (bx:List (List AV)) (exl:List Nat),
  f 39=I i/\i<=ids.length/\f 8=I free/\f 9=I last/\f 10=.sl rt (l.map Qd)/\l.length=i/\(-1<=last/\last<=1000000000)/\free<=9223372036854775807/\UsOK (N+i) us/\EnOK en/\OutR 2 ls.length (ls++exl) rt l/\BdOK { b with rv:=rv,li:=li,pm:=pm } /\
  conT l (Qaj b.p (ids.drop i) us en free last)=T/\m=mBd pre { b with rv:=rv,li:=li,pm:=pm } (post++([.mobj 0 (kvA iA us)]::[.mobj 0 (kvA iA en)]::bx)) (ls++exl)
def InvFr (pre post bx0:List (List AV)) (e:En) (ls:List Nat) (b:Bd) (us en:List (Int×Int)) (L:List Sp) (T:Int) (f:Nat->AV) (m:AM):Prop :=
 ∃ (j:Nat) (fr:Int) (bx:List (List AV)),f 90=I j/\j<=L.length/\f 17=I fr/\Jt en (L.drop j) fr=T/\m=mBd pre b (post++([.mobj 0 (kvA iA us)]::[.mobj 0 (kvA iA en)]::(bx0++(Qi e::bx)))) ls
def Jq:Nat->FuncId->List AV->AV:=fun _ f _=>if f=999999 then .junk else .gd false .junk
theorem earliest42 (pre post:List (List AV)) (ls:List Nat) (b:Bd) (ids:List Int) (rt0:Rt) (N:Int) (hN:0<=N/\N<=100000000) (hids:ids.length<=100000000)
  (hc:b.p.cls.length<=1000000) (hsh:b.p.sh.length<=1000000000) (hit:b.p.its.length<=1000000000) (hen:b.p.ens.length<=1000000000) (hsn:(Vz b.p).length<=1000000000) (hln:b.p.ln<=9223372036854775807) (hea:∀ e∈b.p.ens,e.ea<=9223372036854775807)
  (hat:b.at_<=9223372036854775807) (hus:UsOK N b.us) (henk:EnOK b.en) (hbd:BdOK b) (Y:YT) (K:AV->AM->Prop)
  (hK0:Qaj b.p ids b.us b.en b.at_ (-1)=none->∀ rv li pm ex exl,BdOK { b with rv:=rv,li:=li,pm:=pm }->K (.tup [.sl .nil [],.bool false]) (mBd pre { b with rv:=rv,li:=li,pm:=pm } (post++ex) (ls++exl)))
  (hK1:∀ l,Qaj b.p ids b.us b.en b.at_ (-1)=some l->∀ rv li pm ex exl rt,BdOK { b with rv:=rv,li:=li,pm:=pm }->OutR 2 ls.length (ls++exl) rt l->K (.tup [.sl rt (l.map Qd),.bool true]) (mBd pre { b with rv:=rv,li:=li,pm:=pm } (post++ex) (ls++exl))) :
  EffY Tryz.prog gl0 Y 20 [.ptr (pre.length+9) 0,.sl rt0 (ids.map Yg)] (mBd pre b post ls) K:=by
 obtain ⟨T,hT⟩:∃ T,Qaj b.p ids b.us b.en b.at_ (-1)=T:=⟨_,rfl⟩
 rw [hT] at hK0 hK1
 refine Zb code20 Jq (by simp) ?_
 simp [sc20,mBd,bdL,Qk,Qc]
 refine Jb [(.mp (pre.length+(post.length+10)),mBd pre b (post++[[.mobj 0 (kvA iA b.us)]]) ls)] ?_
 simp [sc20,mBd,bdL,Qk,Qc,Jq]
 refine ⟨clone81 (kn:=0) (kvs:=kvA iA b.us) (by simp) ⟨by simp,by simp⟩,clone81 (kn:=0) (kvs:=kvA iA b.en) (by simp) ?_⟩
 simp [Jq]
 refine Ql w20_0 (InvEar pre post ls b ids N T) (fun f _=>ids.length - (numOf (f 39)).toNat) ?_ ?_
 ·refine ⟨0,b.us,b.en,b.at_,-1,[],.nil,b.rv,b.li,b.pm,[],[],by simp,by omega,by simp,by simp,by simp,rfl,by omega,hat,by simpa using hus,henk,.inl ⟨rfl,rfl⟩,hbd,?_,by simp [mBd,bdL,Qk,Qc]⟩
  rw [List.drop_zero,hT]
  cases T<;>rfl
 ·rintro f m ⟨i,us,en,free,last,l,rt,rv,li,pm,bx,exl,h39,hi,h8,h9,h10,hll,hla,hfr,hu,he,hO,hB,hg,rfl⟩
  rcases Nat.lt_or_ge i ids.length with hlt | hge
  ·obtain ⟨id,hid⟩:=getS hlt
   have hrow:Qf (ids.map Yg) i=Yg id:=Qv (by simp [hid])
   have hilt:(i:Int) < (ids.length:Int):=by omega
   have hw:=wrS i (by omega)
   rw [Qz hid,Qaj] at hg
   have no:T=none->∀ rv li pm ex exl,BdOK { b with rv:=rv,li:=li,pm:=pm }->K (.tup [.sl .nil [],.bool false]) (mBd pre { b with rv:=rv,li:=li,pm:=pm } (post++ex) (ls++exl)):=hK0
   rcases Zk iA id (plcS b.p) 0 with ⟨p1,p2,_⟩ | ⟨u,n,p1,p2,_⟩
   ·have p1:fidx id b.p.ens 0=none:=by
     rw [plcS_af] at p1
     cases hx:fidx id b.p.ens 0 with
     | none=>rfl
     | some k=>rw [hx] at p1;cases p1
    rw [p1] at hg
    simp [h39,h8,h9,h10,hlt,hilt,hrow,Yg,mBd,bdL,Qk,Qc,w20_0,p2,rs20]
    have:=hK0 hg.symm rv li pm ([.mobj 0 (kvA iA us)]::[.mobj 0 (kvA iA en)]::bx) exl hB
    simpa [mBd,bdL,Qk,Qc] using this
   ·obtain ⟨k,pk,rfl⟩:∃ k:Nat,fidx id b.p.ens 0=some k/\(k:Int)=u:=by
     rw [plcS_af] at p1
     cases hx:fidx id b.p.ens 0 with
     | none=>rw [hx] at p1;cases p1
     | some k=>rw [hx] at p1;cases p1;exact ⟨k,rfl,rfl⟩
    rw [Nat.zero_add] at p2
    rw [pk] at hg
    simp only at hg
    obtain ⟨_,e,he1,he2,he3⟩:=fidx_spec pk
    rw [Nat.sub_zero] at he1
    have hkl:=(List.getElem?_eq_some_iff.1 he1).1
    have hkl':(k:Int) < (b.p.ens.length:Int):=by omega
    have herow:=enRow_row he1
    by_cases c1:(k:Int)<=last
    ·rw [if_pos c1] at hg
     simp [h39,h8,h9,h10,hlt,hilt,hrow,Yg,mBd,bdL,Qk,Qc,w20_0,p2,rs20,c1]
     have:=hK0 hg.symm rv li pm ([.mobj 0 (kvA iA us)]::[.mobj 0 (kvA iA en)]::bx) exl hB
     simpa [mBd,bdL,Qk,Qc] using this
    ·rw [if_neg c1,he1] at hg
     simp only at hg
     simp [h39,h8,h9,h10,hlt,hilt,hrow,Yg,mBd,bdL,Qk,Qc,w20_0,p2,c1,hkl,hkl',herow,Qi,Jq]
     have k82:=fun K'=>limit82 pre (post++([.mobj 0 (kvA iA us)]::[.mobj 0 (kvA iA en)]::(bx++[Qi e]))) (ls++exl) { b with rv:=rv,li:=li,pm:=pm } e.it (by simp only;omega) hit hB.1 Y K'
     simp only [mBd,bdL,Qk,Qc,Qi] at k82
     refine k82 _ fun li2 hli2=>?_
     clear k82
     have hB2:BdOK { b with rv:=rv,li:=li2,pm:=pm }:=⟨hli2,hB.2.1,hB.2.2⟩
     obtain ⟨R,hR⟩:∃ R,Wv b.p e.it=R:=⟨_,rfl⟩
     rw [hR] at hg
     obtain ⟨cu,hcu,hcu2⟩:∃ cu,(af e.it us).getD 0=cu/\((Qx [e.it] (kvA iA us) 0=none/\cu=0)\/∃ n,Qx [e.it] (kvA iA us) 0=some (n,I cu)):=by
      rcases Zk iA e.it us 0 with ⟨q1,q2,_⟩ | ⟨u,n,q1,q2,_⟩
      ·exact ⟨0,by rw [q1];rfl,.inl ⟨q2,rfl⟩⟩
      ·exact ⟨u,by rw [q1];rfl,.inr ⟨_,q2⟩⟩
     rw [hcu] at hg
     by_cases r2:R ≠ -1/\R<=cu
     ·rw [if_pos r2] at hg
      have:=hK0 hg.symm rv li2 pm ([.mobj 0 (kvA iA us)]::[.mobj 0 (kvA iA en)]::(bx++[Qi e])) exl hB2
      obtain ⟨r1,r2⟩:=r2
      rcases hcu2 with ⟨q2,rfl⟩ | ⟨n2,q2⟩
      ·simp [mBd,bdL,Qk,Qc,Qi,Jq,q2,r1,r2,hR,rs20]
       simpa [mBd,bdL,Qk,Qc,Qi] using this
      ·simp [mBd,bdL,Qk,Qc,Qi,Jq,q2,r1,r2,hR,rs20]
       simpa [mBd,bdL,Qk,Qc,Qi] using this
     rw [if_neg r2] at hg
     have r3:R = -1\/(R ≠ -1/\¬ R<=cu):=by
      by_cases h:R = -1
      ·exact .inl h
      ·exact .inr ⟨h,fun h'=>r2 ⟨h,h'⟩⟩
     clear r2
     rcases r3 with r1 | ⟨r1,r2⟩
     ·have q2:True:=trivial
      have r2:True:=trivial
      simp [h39,h8,h9,h10,mBd,bdL,Qk,Qc,Qi,Jq,q2,r1,r2,hR]
      have k83:=fun K'=>rivals83 pre (post++([.mobj 0 (kvA iA us)]::[.mobj 0 (kvA iA en)]::(bx++[Qi e]))) (ls++exl) { b with rv:=rv,li:=li2,pm:=pm } e.it (by simp only;omega) hit hsn hB.2.1 Y K'
      simp only [mBd,bdL,Qk,Qc,Qi] at k83
      refine k83 _ fun rv3 ex3 exl3 rt3 L hrv3 hperm=>?_
      clear k83
      have hB3:BdOK { b with rv:=rv3,li:=li2,pm:=pm }:=⟨hli2,hrv3,hB.2.2⟩
      have hLb:∀ r∈L,0<=r.2/\r.2<=6000000000:=fun r hr=>rivL_bd r (hperm.mem_iff.1 hr)
      have hLl:L.length<=1000000000:=by
       rw [hperm.length_eq]
       have:=rivL_len b.p e.it
       omega
      have hfp:=fromL_perm en hperm (max e.ea free)
      obtain ⟨F,hF⟩:∃ F,Jt en (Wx b.p e.it) (max e.ea free)=F:=⟨_,rfl⟩
      rw [hF] at hfp
      have hFb:F<=9223372036854775807:=by
       rw [<- hF]
       refine fromL_bd he rivL_bd ?_ (by omega)
       have:=hea e (List.mem_of_getElem? he1)
       omega
      have hmx:(if e.ea < free then free else e.ea)=max e.ea free:=by omega
      simp [h39,h8,h9,h10,mBd,bdL,Qk,Qc,Qi,Jq,hmx]
      refine Ql w20_1 (InvFr pre post bx e (ls++(exl++exl3)) { b with rv:=rv3,li:=li2,pm:=pm } us en L F) (fun f _=>L.length - (numOf (f 90)).toNat) ?_ ?_
      ·exact ⟨0,max e.ea free,ex3,by simp,by omega,by simp,by rw [List.drop_zero];exact hfp,by simp [mBd,bdL,Qk,Qc,Qi]⟩
      ·rintro g m ⟨j,fr,bx4,g90,hj,g17,hfj,rfl⟩
       rcases Nat.lt_or_ge j L.length with jlt | jge
       ·obtain ⟨r,hr⟩:=getS jlt
        have jrow:=Zm hr
        have jilt:(j:Int) < (L.length:Int):=by omega
        have hwj:=wrS j (by omega)
        rw [Qz hr,Jt] at hfj
        have hrb:=hLb r (List.mem_of_getElem? hr)
        rcases Zk iA r.1 en 0 with ⟨v1,v2,_⟩ | ⟨v,nv,v1,v2,_⟩
        ·rw [v1] at hfj
         simp [g90,g17,w20_1,jlt,jilt,jrow,Qd,hwj,mBd,bdL,Qk,Qc,Qi,v2]
         refine ⟨ag ?_,⟨j+1,fr,bx4++[Qd r],by simp,by omega,by simp [g17],hfj,by simp [mBd,bdL,Qk,Qc,Qd,Qi]⟩,by omega⟩
         repeat (first | exact Qa _ _ | refine Qb _ rfl ?_)
        ·rw [v1] at hfj
         have hvb:=he r.1 v v1
         have hwv:IntKind.i64.wrap (v+r.2)=v+r.2:=by rw [Qe]<;>omega
         have hmv:(if fr < v+r.2 then v+r.2 else fr)=max fr (v+r.2):=by omega
         simp [g90,g17,w20_1,jlt,jilt,jrow,Qd,hwj,mBd,bdL,Qk,Qc,Qi,v2,hwv,hmv]
         refine ⟨ag ?_,⟨j+1,max fr (v+r.2),bx4++[Qd r],by simp,by omega,by simp,hfj,by simp [mBd,bdL,Qk,Qc,Qd,Qi]⟩,by omega⟩
         repeat (first | exact Qa _ _ | refine Qb _ rfl ?_)
       ·have jin:¬ (j:Int) < (L.length:Int):=by omega
        rw [List.drop_eq_nil_of_le jge] at hfj
        have hfj:fr=F:=hfj
        subst hfj
        have k84:=fun K'=>start84 pre (post++([.mobj 0 (kvA iA us)]::[.mobj 0 (kvA iA en)]::(bx++(Qi e::bx4)))) (ls++(exl++exl3)) { b with rv:=rv3,li:=li2,pm:=pm } e fr hc hsh hit hln hFb hB.2.2 Y K'
        simp only [mBd,bdL,Qk,Qc,Qi] at k84
        have hO':OutR 2 ls.length (ls++(exl++exl3)) rt l:=by rw [<- List.append_assoc];exact hO.app
        rw [hF] at hg
        simp [g90,g17,jin,Nat.not_lt.2 jge,w20_1,w20_0,h39,h8,h9,h10,mBd,bdL,Qk,Qc,Qi,Jq]
        refine k84 _ fun pm4 ex4 hpm4=>?_
        clear k84
        have hB4:BdOK { b with rv:=rv3,li:=li2,pm:=pm4 }:=⟨hli2,hrv3,hpm4⟩
        cases hs:Ue b.p e fr with
        | none =>
         rw [hs] at hg
         have:=hK0 hg.symm rv3 li2 pm4 ([.mobj 0 (kvA iA us)]::[.mobj 0 (kvA iA en)]::(bx++(Qi e::(bx4++ex4)))) (exl++exl3) hB4
         simp [Jj,rs20]
         simpa [mBd,bdL,Qk,Qc,Qi] using this
        | some s =>
         rw [hs] at hg
         simp only at hg
         have hg:conT (l++[(id,s)]) (Qaj b.p (ids.drop (i+1)) (Yy us e.it) (Zy b.p en e.it (s+e.fr)) (s+e.fr) k)=T:=by
          rw [<- hg]
          cases Qaj b.p (ids.drop (i+1)) (Yy us e.it) (Zy b.p en e.it (s+e.fr)) (s+e.fr) k<;>simp [conT]
         obtain ⟨a1,a2,a3,a4,a5,a6,_⟩:=startS_ok hs
         have hws:IntKind.i64.wrap (s+e.fr)=s+e.fr:=by rw [Qe]<;>omega
         have kn:=fun LS K'=>note80 pre post (bx++(Qi e::(bx4++ex4))) LS { b with rv:=rv3,li:=li2,pm:=pm4 } us en e.it (s+e.fr) (fun k v h=>by have:=hu k v h;omega) Y K'
         simp only [mBd,bdL,Qk,Qc,Qi] at kn
         have hu2:=hu.note (by omega) e.it
         have he2:EnOK (Zy b.p en e.it (s+e.fr)):=he.note e.it _ (by omega)
         have hN1:N+i+1=N+(i+1:Nat):=by omega
         rw [hN1] at hu2
         rcases hO' with ⟨hl0,hr0⟩ | ⟨k2,hr0,hk1,hk2,_⟩
         ·subst hr0
          subst hl0
          simp [Jj,h39,h8,h9,h10,mBd,bdL,Qk,Qc,Qi,Jq,hws]
          refine kn _ _ fun ex5=>?_
          refine ⟨ag ?_,⟨i+1,Yy us e.it,Zy b.p en e.it (s+e.fr),s+e.fr,k,[(id,s)],.own (ls.length+(exl.length+exl3.length)) 2,rv3,li2,pm4,bx++(Qi e::(bx4++ex4++ex5)),exl++(exl3++[1]),by simp [hw],by omega,by simp,by simp,by simp [Qd],by simp at hll;simp [hll],by omega,by omega,hu2,he2,.inr ⟨_,rfl,by omega,?_,by simp⟩,hB4,hg,?_⟩,by simp [hw];omega⟩
          ·repeat (first | exact Qa _ _ | refine Qb _ rfl ?_)
          ·have:(ls++(exl++(exl3++[1])))=(ls++(exl++exl3))++[1]:=by simp
           rw [this,List.getElem?_append_right (by simp)];simp
          ·simp [mBd,bdL,Qk,Qc,Qi]
         ·subst hr0
          have hk3:=(List.getElem?_eq_some_iff.1 hk2).1
          have hset:(ls++(exl++exl3)).set k2 (l.length+1)=ls++(exl++exl3).set (k2 - ls.length) (l.length+1):=List.set_append_right _ _ hk1
          simp [Jj,h39,h8,h9,h10,mBd,bdL,Qk,Qc,Qi,Jq,hws,hk2]
          refine ⟨⟨?_,by omega⟩,kn _ _ fun ex5=>?_⟩
          ·rintro row (⟨a,b,_,rfl⟩ | rfl)<;>rfl
          ·refine ⟨ag ?_,⟨i+1,Yy us e.it,Zy b.p en e.it (s+e.fr),s+e.fr,k,l++[(id,s)],.own k2 2,rv3,li2,pm4,bx++(Qi e::(bx4++ex4++ex5)),(exl++exl3).set (k2 - ls.length) (l.length+1),by simp [hw],by omega,by simp,by simp,by simp [Qd],by simp [hll],by omega,by omega,hu2,he2,.inr ⟨k2,rfl,hk1,?_,by simp⟩,hB4,hg,?_⟩,by simp [hw];omega⟩
           ·repeat (first | exact Qa _ _ | refine Qb _ rfl ?_)
           ·rw [<- hset,List.getElem?_set_self hk3];simp
           ·simp only [hset];simp [mBd,bdL,Qk,Qc,Qi]
     ·rcases hcu2 with ⟨q2,rfl⟩ | ⟨n2,q2⟩
      all_goals
       simp [h39,h8,h9,h10,mBd,bdL,Qk,Qc,Qi,Jq,q2,r1,r2,hR]
       have k83:=fun K'=>rivals83 pre (post++([.mobj 0 (kvA iA us)]::[.mobj 0 (kvA iA en)]::(bx++[Qi e]))) (ls++exl) { b with rv:=rv,li:=li2,pm:=pm } e.it (by simp only;omega) hit hsn hB.2.1 Y K'
       simp only [mBd,bdL,Qk,Qc,Qi] at k83
       refine k83 _ fun rv3 ex3 exl3 rt3 L hrv3 hperm=>?_
       clear k83
       have hB3:BdOK { b with rv:=rv3,li:=li2,pm:=pm }:=⟨hli2,hrv3,hB.2.2⟩
       have hLb:∀ r∈L,0<=r.2/\r.2<=6000000000:=fun r hr=>rivL_bd r (hperm.mem_iff.1 hr)
       have hLl:L.length<=1000000000:=by
        rw [hperm.length_eq]
        have:=rivL_len b.p e.it
        omega
       have hfp:=fromL_perm en hperm (max e.ea free)
       obtain ⟨F,hF⟩:∃ F,Jt en (Wx b.p e.it) (max e.ea free)=F:=⟨_,rfl⟩
       rw [hF] at hfp
       have hFb:F<=9223372036854775807:=by
        rw [<- hF]
        refine fromL_bd he rivL_bd ?_ (by omega)
        have:=hea e (List.mem_of_getElem? he1)
        omega
       have hmx:(if e.ea < free then free else e.ea)=max e.ea free:=by omega
       simp [h39,h8,h9,h10,mBd,bdL,Qk,Qc,Qi,Jq,hmx]
       refine Ql w20_1 (InvFr pre post bx e (ls++(exl++exl3)) { b with rv:=rv3,li:=li2,pm:=pm } us en L F) (fun f _=>L.length - (numOf (f 90)).toNat) ?_ ?_
       ·exact ⟨0,max e.ea free,ex3,by simp,by omega,by simp,by rw [List.drop_zero];exact hfp,by simp [mBd,bdL,Qk,Qc,Qi]⟩
       ·rintro g m ⟨j,fr,bx4,g90,hj,g17,hfj,rfl⟩
        rcases Nat.lt_or_ge j L.length with jlt | jge
        ·obtain ⟨r,hr⟩:=getS jlt
         have jrow:=Zm hr
         have jilt:(j:Int) < (L.length:Int):=by omega
         have hwj:=wrS j (by omega)
         rw [Qz hr,Jt] at hfj
         have hrb:=hLb r (List.mem_of_getElem? hr)
         rcases Zk iA r.1 en 0 with ⟨v1,v2,_⟩ | ⟨v,nv,v1,v2,_⟩
         ·rw [v1] at hfj
          simp [g90,g17,w20_1,jlt,jilt,jrow,Qd,hwj,mBd,bdL,Qk,Qc,Qi,v2]
          refine ⟨ag ?_,⟨j+1,fr,bx4++[Qd r],by simp,by omega,by simp [g17],hfj,by simp [mBd,bdL,Qk,Qc,Qd,Qi]⟩,by omega⟩
          repeat (first | exact Qa _ _ | refine Qb _ rfl ?_)
         ·rw [v1] at hfj
          have hvb:=he r.1 v v1
          have hwv:IntKind.i64.wrap (v+r.2)=v+r.2:=by rw [Qe]<;>omega
          have hmv:(if fr < v+r.2 then v+r.2 else fr)=max fr (v+r.2):=by omega
          simp [g90,g17,w20_1,jlt,jilt,jrow,Qd,hwj,mBd,bdL,Qk,Qc,Qi,v2,hwv,hmv]
          refine ⟨ag ?_,⟨j+1,max fr (v+r.2),bx4++[Qd r],by simp,by omega,by simp,hfj,by simp [mBd,bdL,Qk,Qc,Qd,Qi]⟩,by omega⟩
          repeat (first | exact Qa _ _ | refine Qb _ rfl ?_)
        ·have jin:¬ (j:Int) < (L.length:Int):=by omega
         rw [List.drop_eq_nil_of_le jge] at hfj
         have hfj:fr=F:=hfj
         subst hfj
         have k84:=fun K'=>start84 pre (post++([.mobj 0 (kvA iA us)]::[.mobj 0 (kvA iA en)]::(bx++(Qi e::bx4)))) (ls++(exl++exl3)) { b with rv:=rv3,li:=li2,pm:=pm } e fr hc hsh hit hln hFb hB.2.2 Y K'
         simp only [mBd,bdL,Qk,Qc,Qi] at k84
         have hO':OutR 2 ls.length (ls++(exl++exl3)) rt l:=by rw [<- List.append_assoc];exact hO.app
         rw [hF] at hg
         simp [g90,g17,jin,Nat.not_lt.2 jge,w20_1,w20_0,h39,h8,h9,h10,mBd,bdL,Qk,Qc,Qi,Jq]
         refine k84 _ fun pm4 ex4 hpm4=>?_
         clear k84
         have hB4:BdOK { b with rv:=rv3,li:=li2,pm:=pm4 }:=⟨hli2,hrv3,hpm4⟩
         cases hs:Ue b.p e fr with
         | none =>
          rw [hs] at hg
          have:=hK0 hg.symm rv3 li2 pm4 ([.mobj 0 (kvA iA us)]::[.mobj 0 (kvA iA en)]::(bx++(Qi e::(bx4++ex4)))) (exl++exl3) hB4
          simp [Jj,rs20]
          simpa [mBd,bdL,Qk,Qc,Qi] using this
         | some s =>
          rw [hs] at hg
          simp only at hg
          have hg:conT (l++[(id,s)]) (Qaj b.p (ids.drop (i+1)) (Yy us e.it) (Zy b.p en e.it (s+e.fr)) (s+e.fr) k)=T:=by
           rw [<- hg]
           cases Qaj b.p (ids.drop (i+1)) (Yy us e.it) (Zy b.p en e.it (s+e.fr)) (s+e.fr) k<;>simp [conT]
          obtain ⟨a1,a2,a3,a4,a5,a6,_⟩:=startS_ok hs
          have hws:IntKind.i64.wrap (s+e.fr)=s+e.fr:=by rw [Qe]<;>omega
          have kn:=fun LS K'=>note80 pre post (bx++(Qi e::(bx4++ex4))) LS { b with rv:=rv3,li:=li2,pm:=pm4 } us en e.it (s+e.fr) (fun k v h=>by have:=hu k v h;omega) Y K'
          simp only [mBd,bdL,Qk,Qc,Qi] at kn
          have hu2:=hu.note (by omega) e.it
          have he2:EnOK (Zy b.p en e.it (s+e.fr)):=he.note e.it _ (by omega)
          have hN1:N+i+1=N+(i+1:Nat):=by omega
          rw [hN1] at hu2
          rcases hO' with ⟨hl0,hr0⟩ | ⟨k2,hr0,hk1,hk2,_⟩
          ·subst hr0
           subst hl0
           simp [Jj,h39,h8,h9,h10,mBd,bdL,Qk,Qc,Qi,Jq,hws]
           refine kn _ _ fun ex5=>?_
           refine ⟨ag ?_,⟨i+1,Yy us e.it,Zy b.p en e.it (s+e.fr),s+e.fr,k,[(id,s)],.own (ls.length+(exl.length+exl3.length)) 2,rv3,li2,pm4,bx++(Qi e::(bx4++ex4++ex5)),exl++(exl3++[1]),by simp [hw],by omega,by simp,by simp,by simp [Qd],by simp at hll;simp [hll],by omega,by omega,hu2,he2,.inr ⟨_,rfl,by omega,?_,by simp⟩,hB4,hg,?_⟩,by simp [hw];omega⟩
           ·repeat (first | exact Qa _ _ | refine Qb _ rfl ?_)
           ·have:(ls++(exl++(exl3++[1])))=(ls++(exl++exl3))++[1]:=by simp
            rw [this,List.getElem?_append_right (by simp)];simp
           ·simp [mBd,bdL,Qk,Qc,Qi]
          ·subst hr0
           have hk3:=(List.getElem?_eq_some_iff.1 hk2).1
           have hset:(ls++(exl++exl3)).set k2 (l.length+1)=ls++(exl++exl3).set (k2 - ls.length) (l.length+1):=List.set_append_right _ _ hk1
           simp [Jj,h39,h8,h9,h10,mBd,bdL,Qk,Qc,Qi,Jq,hws,hk2]
           refine ⟨⟨?_,by omega⟩,kn _ _ fun ex5=>?_⟩
           ·rintro row (⟨a,b,_,rfl⟩ | rfl)<;>rfl
           ·refine ⟨ag ?_,⟨i+1,Yy us e.it,Zy b.p en e.it (s+e.fr),s+e.fr,k,l++[(id,s)],.own k2 2,rv3,li2,pm4,bx++(Qi e::(bx4++ex4++ex5)),(exl++exl3).set (k2 - ls.length) (l.length+1),by simp [hw],by omega,by simp,by simp,by simp [Qd],by simp [hll],by omega,by omega,hu2,he2,.inr ⟨k2,rfl,hk1,?_,by simp⟩,hB4,hg,?_⟩,by simp [hw];omega⟩
            ·repeat (first | exact Qa _ _ | refine Qb _ rfl ?_)
            ·rw [<- hset,List.getElem?_set_self hk3];simp
            ·simp only [hset];simp [mBd,bdL,Qk,Qc,Qi]
  ·have hin:¬ (i:Int) < (ids.length:Int):=by omega
   rw [List.drop_eq_nil_of_le hge,Qaj] at hg
   have hg:some (l++[])=T:=hg
   rw [List.append_nil] at hg
   have:=hK1 l hg.symm rv li pm ([.mobj 0 (kvA iA us)]::[.mobj 0 (kvA iA en)]::bx) exl rt hB hO
   simp [h39,h8,h9,h10,hin,Nat.not_lt.2 hge,w20_0,rs20]
   simpa [mBd,bdL,Qk,Qc] using this
open Go Go.Abs
theorem clone85 (l:List Int) (hl:l.length<=1000000000):Pure Tryz.prog gl0 54 [.sl .ro (l.map Yg)] (.sl .ro (l.map Yg)):=by
 cases l with
 | nil =>
  refine pure_nil_or (Yc (?_:Pure Tryz.prog gl0 54 [.sl .nil []] (.sl .nil [])) (Wk.sl _ _)) ?_
  ·refine Qn code54 (fun _ _ _=>.junk) (by simp) ?_
   simp [sc54,rs54]
  ·refine Qn code54 (fun _ _ _=>.junk) (by simp) ?_
   simp [sc54,rs54]
 | cons x r =>
  refine Qn code54 (fun _ _ _=>.junk) (by simp) ?_
  simp [sc54,rs54,Yg]
  simp at hl
  omega
theorem len_drop1 {α:Type} (c:List α) (i:Nat) (h:i < c.length):(c.take i++c.drop (i+1)).length+1=c.length:=by
 simp;omega
def conG (ok:List Int->Bool) (c:List Int) (i:Nat):List Int :=
 if h:i < c.length then (if ok (c.take i++c.drop (i+1))=true then conG ok c (i+1) else conG ok (c.take i++c.drop (i+1)) i) else c
termination_by c.length - i
decreasing_by
 ·omega
 ·have:=len_drop1 c i h;omega
def okE (b:Bd) (ids:List Int):Bool:=(Qaj b.p ids b.us b.en b.at_ (-1)).isSome
def conS (b:Bd) (ids:List Int):List Int:=if okE b ids=true then [] else conG (okE b) ids 0
def InvCo (pre post:List (List AV)) (ls:List Nat) (b:Bd) (N:Nat) (T:List Int) (f:Nat->AV) (m:AM):Prop :=
 ∃ (i:Nat) (c:List Int) (rv:List (Int×(Rt×List Sp))) (li:List (Int×Int)) (pm:List ((Int×Int)×List Sp)) (ex:List (List AV)) (exl:List Nat),
  f 7=.sl .ro (c.map Yg)/\f 8=I i/\i<=c.length/\c.length<=N/\conG (okE b) c i=T/\BdOK { b with rv:=rv,li:=li,pm:=pm }/\m=mBd pre { b with rv:=rv,li:=li,pm:=pm } (post++ex) (ls++exl)
def orcCo (ids:List Int):Nat->FuncId->List AV->AV:=fun _ f l=>if f=20 then .gd false .junk else if f=54 then .sl .ro (ids.map Yg) else
 (match l with | [.sl _ [[.sl _ a],[.sl _ c]]]=>.sl .ro (a++c) | _=>.junk)
theorem conflict43 (pre post:List (List AV)) (ls:List Nat) (b:Bd) (ids:List Int) (rt0:Rt) (h85:∀ m,Abs.Pure Tryz.prog gl0 54 [cvn m 6 (.sl rt0 (ids.map Yg))] (.sl .ro (ids.map Yg))) (N:Int) (hN:0<=N/\N<=100000000) (hids:ids.length<=100000000)
  (hc:b.p.cls.length<=1000000) (hsh:b.p.sh.length<=1000000000) (hit:b.p.its.length<=1000000000) (hen:b.p.ens.length<=1000000000) (hsn:(Vz b.p).length<=1000000000) (hln:b.p.ln<=9223372036854775807) (hea:∀ e∈b.p.ens,e.ea<=9223372036854775807)
  (hat:b.at_<=9223372036854775807) (hus:UsOK N b.us) (henk:EnOK b.en) (hbd:BdOK b) (Y:YT) (K:AV->AM->Prop)
  (hK:∀ rv li pm ex exl,BdOK { b with rv:=rv,li:=li,pm:=pm }->K (.sl (if okE b ids=true then .nil else .ro) ((conS b ids).map Yg)) (mBd pre { b with rv:=rv,li:=li,pm:=pm } (post++ex) (ls++exl))) :
  EffY Tryz.prog gl0 Y 21 [.ptr (pre.length+9) 0,.sl rt0 (ids.map Yg)] (mBd pre b post ls) K:=by
 refine Zb code21 (orcCo ids) (by simp) ?_
 simp [sc21,mBd,bdL,Qk,Qc,orcCo]
 have k42:=fun K'=>earliest42 pre post ls b ids rt0 N hN hids hc hsh hit hen hsn hln hea hat hus henk hbd Y K'
 simp only [mBd,bdL,Qk,Qc] at k42
 refine k42 _ (fun h0 rv li pm ex exl hB=>?_) (fun l h1 rv li pm ex exl rt hB hO=>?_)
 ·have hok:okE b ids=false:=by simp [okE,h0]
  simp [orcCo]
  refine ⟨h85 _,?_⟩
  refine Ql w21_0 (InvCo pre post ls b ids.length (conS b ids)) (fun f _=>(match f 7 with | .sl _ c=>c.length | _=>0) - (numOf (f 8)).toNat) ?_ ?_
  ·exact ⟨0,ids,rv,li,pm,ex,exl,by simp,by simp,by omega,by omega,by simp [conS,hok],hB,by simp [mBd,bdL,Qk,Qc]⟩
  ·rintro f m ⟨i,c,rv,li,pm,ex,exl,h7,h8,hi,hcl,hT,hB,rfl⟩
   rcases Nat.lt_or_ge i c.length with hlt | hge
   ·have hilt:(i:Int) < (c.length:Int):=by omega
    have hw:=wrS i (by omega)
    simp [h7,h8,hlt,hilt,w21_0,mBd,bdL,Qk,Qc,orcCo,hw]
    have eA:List.take i (List.map Yg c)=(c.take i).map Yg:=by simp
    have eB:List.take (c.length - (i+1)) (List.drop (i+1) (List.map Yg c))=(c.drop (i+1)).map Yg:=by
     rw [List.take_of_length_le (by simp)];simp
    rw [eA,eB,<- List.map_append]
    have k86:=concat86 [(.ro,c.take i),(.ro,c.drop (i+1))] (by simp) (by simp) (by simp;omega)
    have hol:=len_drop1 c i hlt
    rw [conG,dif_pos hlt] at hT
    have hfl:(List.map (fun x:Rt×List Int=>x.2) [(Rt.ro,c.take i),(Rt.ro,c.drop (i+1))]).flatten=c.take i++c.drop (i+1):=by simp
    rw [hfl] at k86
    obtain ⟨o,ho⟩:∃ o,c.take i++c.drop (i+1)=o:=⟨_,rfl⟩
    rw [ho] at k86 hol hT |-
    refine ⟨⟨by omega,fun _ _=>rfl⟩,⟨by omega,fun _ _=>rfl⟩,k86,?_⟩
    have k42:=fun K'=>earliest42 pre (post++ex) (ls++exl) { b with rv:=rv,li:=li,pm:=pm } o .ro N hN (by omega) hc hsh hit hen hsn hln hea hat hus henk hB Y K'
    simp only [mBd,bdL,Qk,Qc] at k42
    refine k42 _ (fun h0 rv2 li2 pm2 ex2 exl2 hB2=>?_) (fun l h1 rv2 li2 pm2 ex2 exl2 rt hB2 hO=>?_)
    ·have hok:okE b o=false:=by simp only [okE];rw [h0];rfl
     rw [hok] at hT
     have hT:conG (okE b) o i=conS b ids:=hT
     simp [h7,h8,w21_0]
     refine ⟨ag ?_,⟨i,o,rv2,li2,pm2,ex++ex2,exl++exl2,by simp,by simp [h8],by omega,by omega,hT,hB2,by simp [mBd,bdL,Qk,Qc]⟩,?_⟩
     ·repeat (first | exact Qa _ _ | refine Qb _ rfl ?_)
     ·rw [Nat.min_eq_left (Nat.le_of_lt hlt),Nat.add_sub_cancel_left]
      exact Nat.sub_lt_sub_left hlt (Nat.lt_succ_self i)
    ·have hok:okE b o=true:=by simp only [okE];rw [h1];rfl
     rw [hok] at hT
     have hT:conG (okE b) c (i+1)=conS b ids:=hT
     simp [h7,h8,w21_0,hw]
     refine ⟨ag ?_,⟨i+1,c,rv2,li2,pm2,ex++ex2,exl++exl2,by simp [h7],by simp,by omega,by omega,hT,hB2,by simp [mBd,bdL,Qk,Qc]⟩,by omega⟩
     repeat (first | exact Qa _ _ | refine Qb _ rfl ?_)
   ·have hin:¬ (i:Int) < (c.length:Int):=by omega
    rw [conG,dif_neg (by omega)] at hT
    have:=hK rv li pm ex exl hB
    rw [<- hT,hok,if_neg (by simp)] at this
    simp [h7,h8,hin,Nat.not_lt.2 hge,w21_0,rs21]
    simpa [mBd,bdL,Qk,Qc] using this
 ·have hok:okE b ids=true:=by simp [okE,h1]
  have:=hK rv li pm ex exl hB
  rw [hok,if_pos rfl] at this
  simp [rs21]
  simpa [mBd,bdL,Qk,Qc,conS,hok] using this
open Go Go.Abs
def Yp (p:Pl):List Int:=p.ens.map fun e=>e.id
def bd0 (p:Pl):Bd:=⟨p,0,[],[],[],[],[]⟩
def slAV8 (l:List Sp):AV:=if l=[] then .sl .nil [] else .sl .ro (l.map Qd)
def compR (p:Pl):AV:=if pvB p=false then .tup [.sl .nil [],.sl .nil [],I 80] else match Qaj p (Yp p) [] [] 0 (-1) with
 | some l=>.tup [slAV8 l,.sl .nil [],I 0]
 | none=>.tup [.sl .nil [],.sl .ro ((conS (bd0 p) (Yp p)).map Yg),I 90]
def orcCp (p:Pl):Nat->FuncId->List AV->AV:=fun _ f _=>if f=999999 then .junk else if f=5 then .bool (pvB p) else .gd false .junk
def InvCp (p:Pl) (f:Nat->AV) (m:AM):Prop:=∃ (i:Nat) (rt:Rt) (ls:List Nat) (bx:List (List AV)),f 17=I i/\i<=p.ens.length/\f 5=.sl rt ((Yp p).take i |>.map Yg)/\OutR 1 0 ls rt ((Yp p).take i)/\m=⟨Qc p::bx,ls,fun _=>.gone,0⟩
theorem spnG_len:∀ (l:List It) (a:List (Int×It)) (s:List (Int×Int)),(spnG l a s).length<=s.length+l.length
 | [],a,s=>by simp [spnG]
 | x::r,a,s=>by
  rw [spnG]
  cases af x.id a with
  | some _ =>
   have:=spnG_len r a s
   simp only [List.length_cons];omega
  | none =>
   have h:=spnG_len r (aset x.id x a) (if 1<=x.sp/\x.sp<=200 then aset x.sp x.id s else s)
   have h2:(if 1<=x.sp/\x.sp<=200 then aset x.sp x.id s else s).length<=s.length+1:=by
    split
    ·exact aset_len _ _ _
    ·omega
   simp only [List.length_cons];omega
theorem bd0_ok (p:Pl):BdOK (bd0 p):=⟨fun _ _ h=>(by cases h),fun _ _ h=>(by cases h),fun _ _ h=>(by cases h)⟩
theorem compile21 (p:Pl) (hs:PlS p) (hc:p.cls.length<=1000000) (hen:p.ens.length<=10000000) (hln:p.ln<=9223372036854775807) (hea:∀ e∈p.ens,e.ea<=9223372036854775807):Pure Tryz.prog gl0 6 [.agg (Qc p)] (compR p):=by
 have k22:=pvalid_pure p hs.w
 obtain ⟨l1,l2,l3,l4,l5,l6⟩:=hs
 have hsn:(Vz p).length<=1000000000:=by
  have:=spnG_len p.its [] []
  simp only [Vz] at *
  simp at this;omega
 refine Qn code6 (orcCp p) (by simp) ?_
 cases hv:pvB p with
 | false =>
  rw [hv] at k22
  have:compR p=.tup [.sl .nil [],.sl .nil [],I 80]:=by rw [compR,if_pos hv]
  rw [this]
  simp [sc6,rs6,Qc,orcCp,hv]
  simpa [Qc] using k22
 | true =>
  rw [hv] at k22
  simp [sc6,Qc,orcCp,hv]
  refine ⟨by simpa [Qc] using k22,?_⟩
  refine Ql w6_0 (InvCp p) (fun f _=>p.ens.length - (numOf (f 17)).toNat) ?_ ?_
  ·exact ⟨0,.nil,[],[],by simp,by omega,by simp,.inl ⟨by simp,rfl⟩,by simp [Qc]⟩
  ·rintro f m ⟨i,rt,ls,bx,h17,hi,h5,hO,rfl⟩
   rcases Nat.lt_or_ge i p.ens.length with hlt | hge
   ·obtain ⟨e,he⟩:=getS hlt
    have hrow:=enRow_row he
    have hilt:(i:Int) < (p.ens.length:Int):=by omega
    have hw:=wrS i (by omega)
    have htk:(Yp p).take (i+1)=(Yp p).take i++[e.id]:=by rw [List.take_add_one];simp [Yp,he]
    have htl:((Yp p).take i).length=i:=by simp [Yp];omega
    obtain ⟨S,hS⟩:∃ S,(Yp p).take i=S:=⟨_,rfl⟩
    rw [hS] at h5 hO htk htl
    rcases hO with ⟨rfl,rfl⟩ | ⟨k,rfl,hk1,hk2,hk3⟩
    ·simp [h17,h5,hlt,hilt,hrow,Qi,Qc,orcCp,w6_0,hw]
     refine ⟨ag ?_,⟨i+1,.own ls.length 1,ls++[1],bx++[Qi e],by simp,by omega,by rw [htk];simp [Yg],.inr ⟨_,rfl,by omega,by rw [htk];simp,by rw [htk];simp⟩,by simp [Qc,Qi]⟩,by omega⟩
     repeat (first | exact Qa _ _ | refine Qb _ rfl ?_)
    ·have hk4:=(List.getElem?_eq_some_iff.1 hk2).1
     simp [h17,h5,hlt,hilt,hrow,Qi,Qc,orcCp,w6_0,hw,hk2]
     refine ⟨⟨?_,by omega⟩,ag ?_,⟨i+1,.own k 1,ls.set k (S.length+1),bx++[Qi e],by simp,by omega,by rw [htk];simp [Yg],.inr ⟨_,rfl,by omega,by rw [htk];simp [hk4],by rw [htk];simp⟩,by simp [Qc,Qi]⟩,by omega⟩
     ·rintro row (⟨a,_,rfl⟩ | rfl)<;>rfl
     ·repeat (first | exact Qa _ _ | refine Qb _ rfl ?_)
   ·have hin:¬ (i:Int) < (p.ens.length:Int):=by omega
    have htl:(Yp p).take i=Yp p:=List.take_of_length_le (by simp [Yp];omega)
    rw [htl] at h5 hO
    have hid:(Yp p).length<=10000000:=by simp [Yp];omega
    have k41:=fun K'=>newBoard41 (Qc p::bx) ls p 0 [] .nil (by omega) l2 (by simp) Y0 K'
    simp only [Qc,List.map_nil] at k41
    simp [h17,h5,hin,Nat.not_lt.2 hge,w6_0,Qc,orcCp]
    refine k41 _ fun ex=>?_
    clear k41
    have h85:∀ m,Abs.Pure Tryz.prog gl0 54 [cvn m 6 (.sl rt ((Yp p).map Yg))] (.sl .ro ((Yp p).map Yg)):=fun m=>by
     have kc:=clone85 (Yp p) (by omega)
     rcases hO with ⟨h1,rfl⟩ | ⟨k,rfl,_⟩
     ·exact Yh kc ⟨Wk.sl _ _,trivial⟩
     ·exact kc
    simp [orcCp]
    refine earliest42 (Qc p::bx) ex ls (bd0 p) (Yp p) rt 0 (by omega) (by omega) hc l1 l2 l3 hsn hln hea (by simp [bd0]) (fun _ _ h=>(by cases h)) (fun _ _ h=>(by cases h)) (bd0_ok p) Y0 _ (fun h0 rv li pm ex2 exl hB=>?_) (fun l h1 rv li pm ex2 exl rt2 hB hO2=>?_)
    ·have h0:Qaj p (Yp p) [] [] 0 (-1)=none:=h0
     have hr:compR p=.tup [.sl .nil [],.sl .ro ((conS (bd0 p) (Yp p)).map Yg),I 90]:=by rw [compR,if_neg (by simp [hv]),h0]
     have hok:okE (bd0 p) (Yp p)=false:=by show (Qaj p (Yp p) [] [] 0 (-1)).isSome=false;rw [h0];rfl
     rw [hr]
     simp [orcCp]
     refine conflict43 (Qc p::bx) (ex++ex2) (ls++exl) { bd0 p with rv:=rv,li:=li,pm:=pm } (Yp p) rt h85 0 (by omega) (by omega) hc l1 l2 l3 hsn hln hea (by simp [bd0]) (fun _ _ h=>(by cases h)) (fun _ _ h=>(by cases h)) hB Y0 _ (fun rv3 li3 pm3 ex3 exl3 hB3=>?_)
     have hok':okE { bd0 p with rv:=rv,li:=li,pm:=pm } (Yp p)=false:=hok
     have hcs:conS { bd0 p with rv:=rv,li:=li,pm:=pm } (Yp p)=conS (bd0 p) (Yp p):=rfl
     rw [hok',hcs,if_neg (by simp)]
     simp [rs6]
    ·have h1:Qaj p (Yp p) [] [] 0 (-1)=some l:=h1
     have hr:compR p=.tup [slAV8 l,.sl .nil [],I 0]:=by rw [compR,if_neg (by simp [hv]),h1]
     rw [hr]
     rcases hO2 with ⟨rfl,rfl⟩ | ⟨k2,rfl,_,_,hne⟩
     ·simp [orcCp,rs6,slAV8]
     ·simp [orcCp,rs6,slAV8,hne]
end Go.Proofs.YtjmgelbfndnpjaaGreatDoor
