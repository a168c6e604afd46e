import Derived.Test.YtkcnjajklnoahaaGreatDoorTYScM
set_option linter.unusedVariables false
set_option linter.unusedSimpArgs false
set_option maxRecDepth 100000
set_option maxHeartbeats 64000000
namespace Go.Proofs.YtkcnjajklnoahaaGreatDoor
open Go Go.Abs
def stF (ok:List Int->Bool) (rd:Int->Nat) (ids:List Int) (r:Nat):Nat->Nat->List Bool->List Bool
 | 0,_,K=>K
 | n+1,i,K=>stF ok rd ids r n (i+1) (Ux ok rd ids r K i)
theorem stF_round (ok:List Int->Bool) (rd:Int->Nat) (ids:List Int) (r:Nat) (K:List Bool):Yw ok rd ids r K=stF ok rd ids r ids.length 0 K:=by
 have:∀ (n i:Nat) (K:List Bool),(List.range' i n).foldl (Ux ok rd ids r) K=stF ok rd ids r n i K:=by
  intro n
  induction n with
  | zero=>intro i K;rfl
  | succ n ih=>intro i K;rw [List.range'_succ,List.foldl_cons,ih];rfl
 unfold Yw
 rw [List.range_eq_range']
 exact this _ _ _
theorem stepK_of {ok:List Int->Bool} {rd:Int->Nat} {ids:List Int} {r:Nat} {K:List Bool} {i:Nat} {id:Int} (h:ids[i]? = some id):Ux ok rd ids r K i=if rd id=r then K.set i (ok (Xa true ids (K.set i true))) else K:=by
 unfold Ux;rw [h]
def chF (ok:List Int->Bool) (rd:Int->Nat) (ids:List Int):Nat->Nat->List Bool->List Bool
 | 0,_,K=>K
 | n+1,r,K=>chF ok rd ids n (r+1) (Yw ok rd ids r K)
def Qaj (p:Pl) (ids:List Int):List (List AV):=[Qa p,[.sl .ro (ids.map Qp)]]
def postC (E:List (List AV)) (n:Nat) (K:List Bool) (ex:List (List AV)):List (List AV):=E++(K.map AV.bool::[.bs (E.length+12) 0 n 1]::ex)
def mCh (p:Pl) (ids:List Int) (b:Bd) (E:List (List AV)) (K:List Bool) (ex:List (List AV)) (ls:List Nat):AM:=mBd (Qaj p ids) b (postC E ids.length K ex) ls
def cab (b:Bd) (rv:List (Int×(Rt×List Sp))) (li:List (Int×Int)) (pm:List ((Int×Int)×List Sp)):Bd:={ b with rv:=rv,li:=li,pm:=pm }
def InvCh (p:Pl) (ids:List Int) (b:Bd) (E:List (List AV)) (T:List Bool) (f:Nat->AV) (m:AM):Prop :=
 ∃ (r:Nat) (K:List Bool) (rv:List (Int×(Rt×List Sp))) (li:List (Int×Int)) (pm:List ((Int×Int)×List Sp)) (ex:List (List AV)) (ls:List Nat),f 36=I r/\r<=3/\K.length=ids.length/\chF (okE b) (rdS p) ids (3 - r) r K=T/\Qcd (cab b rv li pm)/\m=mCh p ids (cab b rv li pm) E K ex ls
def InvCi (p:Pl) (ids:List Int) (b:Bd) (E:List (List AV)) (r:Nat) (T:List Bool) (f:Nat->AV) (m:AM):Prop :=
 ∃ (i:Nat) (K:List Bool) (rv:List (Int×(Rt×List Sp))) (li:List (Int×Int)) (pm:List ((Int×Int)×List Sp)) (ex:List (List AV)) (ls:List Nat),f 41=I i/\i<=ids.length/\K.length=ids.length/\stF (okE b) (rdS p) ids r (ids.length - i) i K=T/\Qcd (cab b rv li pm)/\m=mCh p ids (cab b rv li pm) E K ex ls
def REar (p:Pl) (ids:List Int) (b:Bd) (E:List (List AV)) (K:List Bool) (ex:List (List AV)) (ls:List Nat) (S:List Int) (v:AV) (m:AM):Prop :=
 ∃ (a:AV) (rv:List (Int×(Rt×List Sp))) (li:List (Int×Int)) (pm:List ((Int×Int)×List Sp)) (ex2:List (List AV)) (exl:List Nat),v=.tup [a,.bool (okE b S)]/\Qcd (cab b rv li pm)/\m=mCh p ids (cab b rv li pm) E K (ex++ex2) (ls++exl)
def orcCh:Nat->FuncId->List AV->AV:=fun d f _=>if f=999999 then (if d=34 then .mobj 0 [] else .junk) else .gd false .junk
theorem col45 {p:Pl} {ids:List Int} (hi:ids.length<=1000) (b:Bd) (E:List (List AV)) (K:List Bool) (hk:K.length=ids.length) (ex:List (List AV)) (ls:List Nat) (w:Bool) (Y:YT) (Q:AV->AM->Prop)
  (hQ:Q (.sl (Jy ls.length (Xa w ids K)) ((Xa w ids K).map Qp)) (mCh p ids b E K ex (ls++Kb (Xa w ids K)))) :
  EffY Tryz.prog gl0 Y 45 [.bool w,.ptr 1 0,.ptr (E.length+13) 0] (mCh p ids b E K ex ls) Q:=by
 refine collect45 ids K w hi hk (mCh p ids b E K ex ls) 1 (E.length+13) (E.length+12) ?_ ?_ ?_ ?_ ?_ ?_ Y Q hQ
 all_goals simp [mCh,mBd,bdL,Qaj,postC]
 all_goals omega
theorem fills_one (a:AV):∀ n:Nat,fills n [a]=List.replicate n a
 | 0=>rfl
 | n+1=>by rw [fills,fills_one a n];rfl
theorem ear38 {p:Pl} (h:PlK p) {at_:Int} (ha:Xx at_) {past:List Ad} (hp:past.length<=1000) (pre post:List (List AV)) (ls:List Nat) (rv:List (Int×(Rt×List Sp))) (li:List (Int×Int)) (pm:List ((Int×Int)×List Sp)) (hB:Qcd (cab (bdP p at_ past) rv li pm))
  (S:List Int) (hS:S.length<=1000) (rt0:Rt) (Y:YT) (K:AV->AM->Prop)
  (hK:∀ a rv li pm ex exl,Qcd (cab (bdP p at_ past) rv li pm)->((Qq p at_ past S=none/\a=.sl .nil [])\/∃ l rt,Qq p at_ past S=some l/\OutR 2 ls.length (ls++exl) rt l/\a=.sl rt (l.map Qe)) ->
   K (.tup [a,.bool (okE (bdP p at_ past) S)]) (mBd pre (cab (bdP p at_ past) rv li pm) (post++ex) (ls++exl))) :
  EffY Tryz.prog gl0 Y 38 [.ptr (pre.length+9) 0,.sl rt0 (S.map Qp)] (mBd pre (cab (bdP p at_ past) rv li pm) post ls) K:=by
 have hsn:=h.spn
 obtain ⟨l1,l2,l3,l4,l5,l6,l7,l8,l9,l10⟩:=h
 have hU:=pastU_us past
 have hE:=pastE_en p past
 refine Qat pre post ls (cab (bdP p at_ past) rv li pm) S rt0 past.length (by omega) (by omega) (show p.cls.length<=1000000 by omega) (show p.sh.length<=1000000000 by omega) (show p.its.length<=1000000000 by omega) (show p.ens.length<=1000000000 by omega) (show (Vn p).length<=1000000000 by omega) l7.2 (fun e he=>(l8 e he).2) ha.2 hU hE hB Y K (fun h0 rv li pm ex2 exl hB=>?_) (fun l h1 rv li pm ex2 exl rt2 hB hO2=>?_)
 ·have h0:Qq p at_ past S=none:=h0
  have:=hK (.sl .nil []) rv li pm ex2 exl hB (.inl ⟨h0,rfl⟩)
  rw [Vq,h0] at this
  exact this
 ·have h1:Qq p at_ past S=some l:=h1
  have:=hK (.sl rt2 (l.map Qe)) rv li pm ex2 exl hB (.inr ⟨l,rt2,h1,hO2,rfl⟩)
  rw [Vq,h1] at this
  exact this
theorem selB_le (w:Bool) (ids:List Int) (K:List Bool):(Xa w ids K).length<=ids.length:=(Qbp w ids K).length_le
theorem choose19 {p:Pl} (h:PlK p) {at_:Int} (ha:Xx at_) {past:List Ad} (hp:past.length<=1000) {ids:List Int} (hi:ids.length<=1000) :
  Pure Tryz.prog gl0 19 [.agg (Qa p),.sl .ro (ids.map Qp),I at_,.sl .ro (past.map Qu)] (choR p at_ past ids):=by
 have hpk:=h
 obtain ⟨l1,l2,l3,l4,l5,l6,l7,l8,l9,l10⟩:=h
 refine Ql code19 orcCh (by simp) ?_
 simp [sc19,Qa,orcCh]
 have k41:=fun K'=>Qcm (Qaj p ids) [] p at_ past .ro (by omega) (by omega) (by omega) Y0 K'
 simp only [Qaj,Qa] at k41
 refine k41 _ fun ex=>?_
 clear k41
 simp [orcCh,mBd,bdL,Qj,Qa]
 refine ear38 hpk ha hp (Qaj p ids) ex [] [] [] [] (bdP_ok p at_ past) ids hi .ro Y0 _ (fun a rv li pm ex2 exl hB hr=>?_)
 rcases hr with ⟨h0,rfl⟩ | ⟨l,rt,h1,hO,rfl⟩
 ·have hok:okE (bdP p at_ past) ids=false:=by rw [Vq,h0];rfl
  rw [hok]
  obtain ⟨E,hE⟩:∃ E,ex++ex2=E:=⟨_,rfl⟩
  rw [hE]
  simp [orcCh,mBd,bdL,Qj,Qaj,Qa,cab,bdP]
  refine ⟨by omega,?_⟩
  refine Qg w19_0 (InvCh p ids (bdP p at_ past) E (Yp p at_ past ids)) (fun f _=>(3 - numOf (f 36)).toNat) ?_ ?_
  ·exact ⟨0,List.replicate ids.length false,rv,li,pm,[],exl,by simp,by omega,by simp,rfl,hB,by simp [mCh,mBd,bdL,Qj,Qaj,postC,Qa,cab,bdP,fills_one]⟩
  ·clear hB
   rintro f m ⟨r,K,rv,li,pm,ex3,ls,h36,hr3,hK,hT,hB,rfl⟩
   rcases Nat.lt_or_ge r 3 with rlt | rge
   ·have rilt:(r:Int) < 3:=by omega
    have hwr:=wrS r (by omega)
    obtain ⟨n,hn⟩:∃ n,3 - r=n+1:=⟨2 - r,by omega⟩
    rw [hn,chF] at hT
    obtain ⟨T,hTr⟩:∃ T,Yw (okE (bdP p at_ past)) (rdS p) ids r K=T:=⟨_,rfl⟩
    rw [hTr] at hT
    rw [stF_round] at hTr
    simp [h36,rlt,rilt,w19_0,mCh,mBd,bdL,Qaj,postC,cab,bdP]
    refine Qg w19_1 (InvCi p ids (bdP p at_ past) E r T) (fun f _=>ids.length - (numOf (f 41)).toNat) ?_ ?_
    ·exact ⟨0,K,rv,li,pm,ex3,ls,by simp,by omega,hK,by simpa using hTr,hB,by simp [mCh,mBd,bdL,Qaj,postC,cab,bdP]⟩
    ·clear hTr hK hB
     rintro g m ⟨i,K,rv,li,pm,ex3,ls,g41,hil,hK,hTi,hB,rfl⟩
     rcases Nat.lt_or_ge i ids.length with hlt | hge
     ·obtain ⟨id,hx⟩:=getS hlt
      have hrow:Qk (ids.map Qp) i=Qp id:=Qv (by simp [hx])
      have hilt:(i:Int) < (ids.length:Int):=by omega
      have hw:=wrS i (by omega)
      obtain ⟨n2,hn2⟩:∃ n2,ids.length - i=n2+1:=⟨ids.length - i - 1,by omega⟩
      have hn3:ids.length - (i+1)=n2:=by omega
      rw [hn2,stF,stepK_of hx] at hTi
      simp [g41,hlt,hilt,hrow,Qp,w19_1,mCh,mBd,bdL,Qaj,postC,cab,bdP,orcCh]
      refine round46 (Qaj p ids) (postC E ids.length K ex3) ls (cab (bdP p at_ past) rv li pm) id Y0 _ (fun exr=>?_)
      have hpb:(cab (bdP p at_ past) rv li pm).p=p:=rfl
      rw [hpb]
      by_cases hrd:rdS p id=r
      ·rw [if_pos hrd] at hTi
       have hrd':((rdS p id:Nat):Int)=(r:Int):=by omega
       have hms:(K.map AV.bool).set i (.bool true)=(K.set i true).map AV.bool:=by rw [List.map_set]
       simp [hrd',mBd,bdL,Qaj,postC,cab,bdP,orcCh]
       refine ⟨hlt,by omega,?_⟩
       rw [hms]
       obtain ⟨S,hS⟩:∃ S,Xa true ids (K.set i true)=S:=⟨_,rfl⟩
       have hSl:S.length<=1000:=by have:=selB_le true ids (K.set i true);rw [hS] at this;omega
       have hK2:(K.set i true).length=ids.length:=by simpa using hK
       rw [hS] at hTi
       obtain ⟨ok,hok2⟩:∃ ok,okE (bdP p at_ past) S=ok:=⟨_,rfl⟩
       rw [hok2] at hTi
       refine vc_drawN rfl [(.sl (Jy ls.length S) (S.map Qp),mCh p ids (cab (bdP p at_ past) rv li pm) E (K.set i true) (ex3++exr) (ls++Kb S))] (REar p ids (bdP p at_ past) E (K.set i true) (ex3++exr) (ls++Kb S) S)
        ⟨(.tup [.sl .nil [],.bool (okE (bdP p at_ past) S)],mCh p ids (cab (bdP p at_ past) rv li pm) E (K.set i true) ((ex3++exr)++[]) ((ls++Kb S)++[])),.sl .nil [],rv,li,pm,[],[],rfl,hB,rfl⟩ (fun v m' hv=>?_)
       obtain ⟨a,rv2,li2,pm2,ex4,exl4,rfl,hB2,rfl⟩:=hv
       rw [hok2]
       simp [mCh,mBd,bdL,Qaj,postC,cab,bdP,orcCh,hw]
       rw [hms]
       have hms2:(K.map AV.bool).set i (.bool ok)=(K.set i ok).map AV.bool:=by rw [List.map_set]
       refine ⟨?_,?_,hlt,by omega,ag ?_,⟨i+1,K.set i ok,rv2,li2,pm2,(ex3++exr)++ex4,ls++Kb S++exl4,by simp,by omega,by simpa using hK,by rw [hn3];exact hTi,hB2,by simp [mCh,mBd,bdL,Qaj,postC,cab,bdP]⟩,by simp [g41];omega⟩
       ·refine col45 (p:=p) hi (cab (bdP p at_ past) rv li pm) E (K.set i true) hK2 (ex3++exr) ls true Y0 _ ?_
        rw [hS]
        exact ⟨rfl,rfl⟩
       ·refine ear38 hpk ha hp (Qaj p ids) (postC E ids.length (K.set i true) (ex3++exr)) (ls++Kb S) rv li pm hB S hSl _ Y0 _ (fun a rv li pm ex exl hB _=>⟨a,rv,li,pm,ex,exl,rfl,hB,by simp [mCh,postC];rfl⟩)
       ·repeat (first | exact Qb _ _ | refine Qc _ rfl ?_)
      ·rw [if_neg hrd] at hTi
       have hrd':¬ ((rdS p id:Nat):Int)=(r:Int):=by omega
       simp [hrd',mBd,bdL,Qaj,postC,cab,bdP,orcCh,hw]
       refine ⟨ag ?_,⟨i+1,K,rv,li,pm,ex3++exr,ls,by simp,by omega,hK,by rw [hn3];exact hTi,hB,by simp [mCh,mBd,bdL,Qaj,postC,cab,bdP]⟩,by omega⟩
       repeat (first | exact Qb _ _ | refine Qc _ rfl ?_)
     ·have hin:¬ (i:Int) < (ids.length:Int):=by omega
      have hz:ids.length - i=0:=by omega
      rw [hz,stF] at hTi
      subst hTi
      simp [g41,hin,Nat.not_lt.2 hge,w19_1,w19_0,h36,mCh,mBd,bdL,Qaj,postC,cab,bdP,hwr]
      refine ⟨ag ?_,⟨r+1,K,rv,li,pm,ex3,ls,by simp,by omega,hK,by rw [show 3 - (r+1)=n by omega];exact hT,hB,by simp [mCh,mBd,bdL,Qaj,postC,cab,bdP]⟩,by omega⟩
      repeat (first | exact Qb _ _ | refine Qc _ rfl ?_)
   ·have rin:¬ (r:Int) < 3:=by omega
    obtain rfl:r=3:=by omega
    have hT:K=Yp p at_ past ids:=hT
    subst hT
    obtain ⟨ka,kb,kc⟩:=keptS_spec p at_ past ids
    obtain ⟨L,hL⟩:=Option.isSome_iff_exists.1 kb
    simp [h36,w19_0,mCh,mBd,bdL,Qaj,postC,cab,bdP,orcCh]
    refine col45 (p:=p) hi (cab (bdP p at_ past) rv li pm) E (Yp p at_ past ids) ka ex3 ls true Y0 _ ?_
    obtain ⟨S,hS⟩:∃ S,Xa true ids (Yp p at_ past ids)=S:=⟨_,rfl⟩
    have hSl:S.length<=1000:=by have:=selB_le true ids (Yp p at_ past ids);rw [hS] at this;omega
    have hr:choR p at_ past ids=.tup [Vm L,Ww (Xa false ids (Yp p at_ past ids))]:=by rw [choR,hL];rfl
    rw [hr]
    rw [hS] at hL |-
    simp [mCh,mBd,bdL,Qaj,postC,cab,bdP,orcCh]
    refine ear38 hpk ha hp (Qaj p ids) (postC E ids.length (Yp p at_ past ids) ex3) (ls++Kb S) rv li pm hB S hSl _ Y0 _ (fun a rv li pm ex4 exl4 hB hv=>?_)
    rcases hv with ⟨h0,_⟩ | ⟨l,rt,h1,hO,rfl⟩
    ·rw [hL] at h0;cases h0
    ·rw [hL] at h1
     cases h1
     simp [mCh,mBd,bdL,Qaj,postC,cab,bdP,orcCh]
     refine col45 (p:=p) hi (cab (bdP p at_ past) rv li pm) E (Yp p at_ past ids) ka (ex3++ex4) (ls++(Kb S++exl4)) false Y0 _ ?_
     obtain ⟨D,hD⟩:∃ D,Xa false ids (Yp p at_ past ids)=D:=⟨_,rfl⟩
     rw [hD]
     by_cases hDe:D=[]
     ·subst hDe
      rcases hO with ⟨rfl,rfl⟩ | ⟨k2,rfl,_,_,hne⟩
      ·simp [rs19,Vm,Ww,Jy]
      ·simp [rs19,Vm,Ww,Jy,hne]
     ·rcases hO with ⟨rfl,rfl⟩ | ⟨k2,rfl,_,_,hne⟩
      ·simp [rs19,Vm,Ww,Jy,hDe]
      ·simp [rs19,Vm,Ww,Jy,hDe,hne]
 ·have hok:okE (bdP p at_ past) ids=true:=by rw [Vq,h1];rfl
  obtain ⟨hk1,hk2⟩:=keptS_all p at_ past ids (by rw [h1];rfl)
  have hr:choR p at_ past ids=.tup [Vm l,.sl .nil []]:=by rw [choR,hk1,hk2,h1];rfl
  rw [hok,hr]
  rcases hO with ⟨rfl,rfl⟩ | ⟨k2,rfl,_,_,hne⟩
  ·simp [rs19,Vm]
  ·simp [rs19,Vm,hne]
end Go.Proofs.YtkcnjajklnoahaaGreatDoor
