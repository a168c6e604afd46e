import Derived.Test.YthjppoincojfkaaGreatDoorRSRpC
set_option linter.all false
set_option maxRecDepth 100000
set_option maxHeartbeats 64000000
namespace Go.Proofs.YthjppoincojfkaaGreatDoor
open Go Go.Abs
def j9:Pg->Int->List Od->Pi
 |_,_,[]=>[]
 |g,F,o::r=>iH g o F::j9 (Jw g o) (iH g o F) r
def HJ:∀(g:Pg)(F:Int)(l:List Od),(j9 g F l).length=l.length
 |_,_,[]=>rfl
 |g,F,o::r=>by rw[j9,zzaz,zzaz,HJ]
def atN(o:Pi)(rt:Rt)(ls:Pa):Prop:=(rt=.full/\ls=[]/\o.length=1)\/(rt=.own 0 1/\ls=[o.length]/\2<=o.length)
def atO(C:List Pg)(L:List Od)(E:Pi)(f:Nat->AV)(m:AM):Prop:=
 ∃(i:Nat)(g:Pg)(F:Int)(out:Pi)(rt:Rt)(ls:Pa),f 6=I i/\i<=L.length/\f 5=.sl rt (out.map Qy)/\atN out rt ls/\out.length=i+1/\out[i]?=some F/\C[i]?=some g/\out++j9 g F (L.drop i)=E/\m=⟨[],ls,fun _=>.gone,0⟩
def tw:UV:=fun _ f l=>if f=21 then(match l with
 |[.agg a,.agg b]=>.bool (nY (dPg a) (dOd b))
 |_=>.junk)else .junk
def R3(C:List Pg)(L:List Od)(g0:Pg)(FD:C=g0::Ka g0 L)(hC:∀i g,C[i]?=some g->ChP i g)(hL:L.length<=8)(hLo:∀o∈L,Af o):
  Pure Tryz.prog aD 16 [.sl .ro (C.map Qj),.sl .ro (L.map Qq)] (.sl .ro ((0::j9 g0 0 L).map Qy)):=by
 have hCl:C.length=L.length+1:=by rw[FD,zzaz,lC]
 have hN:∀i h o,L[i]?=some o->C[i]?=some h->C[i+1]?=some (Jw h o):=fun i h o h1 h2=>by rw[FD]at h2 |-;exact BK i h o h1 h2
 have h00:C[0]?=some g0:=by rw[FD];rfl
 clear FD
 suffices h:∃rt,Pure Tryz.prog aD 16 [.sl .ro (C.map Qj),.sl .ro (L.map Qq)] (.sl rt ((0::j9 g0 0 L).map Qy)) by
  obtain⟨rt,h⟩:=h;exact Zh h (Wk.sl _ _)
 refine⟨if L=[]then .full else .ro,Qp ajE tw zd ?_⟩;simp[ajC,tw];refine Qi ov (atO C L (0::j9 g0 0 L)) (fun f _=>L.length-(numOf (f 6)).toNat) ?_ ?_
 ·exact⟨0,g0,0,[0],.full,[],zd,zE,by simp[Qy],.inl ⟨rfl,rfl,rfl⟩,rfl,rfl,h00,rfl,zd⟩
 rintro f m ⟨i,g,F,out,rt,ls,f6,hi,f5,hO,zT,hF,hg,hr,rfl⟩;have hw:IntKind.i64.wrap ((i:Int)+1)=(i:Int)+1:=by rw[Ql]<;>omega
 rcases zzaa i L.length with ah|bq
 ·have aa:(i:Int)+1<(C.length:Int):=zE
  obtain⟨o,ho⟩:=aV ah;have hgP:=hC i g hg;have hh:=hN i g o ho hg;have r1:Qh (C.map Qj) i=Qj g:=Qu (by simp[hg]);have r2:Qh (L.map Qq) i=Qq o:=Qu (by simp[ho]);have r3:Qh (out.map Qy) i=[I F]:=Qu (by simp[hF,Qy]);have k21:=rR g o (BI hgP.ok zE (hLo o (zzad ho)));have hdg:dPg (Qj g)=g:=by rw[ON,hgP.nn]
  have A1:=DX o;have hd:L.drop i=o::L.drop (i+1):=by rw[zzag ah,(zza.1 ho).2]
  rw[hd,j9]at hr;have hiC:i<C.length:=zE
  have AW:i<out.length:=zE
  have mW:(out++[iH g o F])++j9 (Jw g o) (iH g o F) (L.drop (i+1))=0::j9 g0 0 L:=by rw[<- hr];simp
  have hnx:(out++[iH g o F])[i+1]?=some (iH g o F):=by rw[zzap zE,zT];simp
  simp only[Qa,Qj,Qq,Qd,Qg,Qk,zzae,zzai]at r1 r2 k21 hdg A1;have e0:iH g o F=if o.ki≠5/\nY g o=true then o.fr else F:=rfl;by_cases h5:o.ki=5
  ·have e1:iH g o F=F:=by rw[e0,if_neg (by simp[h5])]
   rw[e1]at mW hnx;rw[h5]at r2 A1 k21;obtain⟨rfl,rfl,h1⟩|⟨rfl,rfl,h1⟩:=hO
   ·simp[f6,f5,ov,hw,aa,r1,r2,r3,tw,hdg,A1]
    repeat' first
     |exact k21
     |omega
     |exact⟨i+1,Jw g o,F,out++[F],.own 0 1,[out.length+1],zd,zE,by simp[Qy],.inr ⟨rfl,zd,by simp;omega⟩,by simp;omega,hnx,hh,mW,zd⟩
     |(rintro row (⟨a,_,rfl⟩|rfl)<;>rfl)
     |exact Qb _ _
     |refine Qc _ rfl ?_
     |refine ag ?_
     |refine And.intro ?_ ?_
   simp[f6,f5,ov,hw,aa,r1,r2,r3,tw,hdg,A1]
   repeat' first
    |exact k21
    |omega
    |exact⟨i+1,Jw g o,F,out++[F],.own 0 1,[out.length+1],zd,zE,by simp[Qy],.inr ⟨rfl,zd,by simp;omega⟩,by simp;omega,hnx,hh,mW,zd⟩
    |(rintro row (⟨a,_,rfl⟩|rfl)<;>rfl)
    |exact Qb _ _
    |refine Qc _ rfl ?_
    |refine ag ?_
    |refine And.intro ?_ ?_
  cases hf:nY g o with
  |false=>
   rw[hf]at k21;have e1:iH g o F=F:=by rw[e0,if_neg (by simp[hf])]
   rw[e1]at mW hnx;obtain⟨rfl,rfl,h1⟩|⟨rfl,rfl,h1⟩:=hO
   ·simp[f6,f5,ov,hw,aa,r1,r2,r3,tw,hdg,A1,h5,hf]
    repeat' first
     |exact k21
     |omega
     |exact⟨i+1,Jw g o,F,out++[F],.own 0 1,[out.length+1],zd,zE,by simp[Qy],.inr ⟨rfl,zd,by simp;omega⟩,by simp;omega,hnx,hh,mW,zd⟩
     |(rintro row (⟨a,_,rfl⟩|rfl)<;>rfl)
     |exact Qb _ _
     |refine Qc _ rfl ?_
     |refine ag ?_
     |refine And.intro ?_ ?_
   simp[f6,f5,ov,hw,aa,r1,r2,r3,tw,hdg,A1,h5,hf]
   repeat' first
    |exact k21
    |omega
    |exact⟨i+1,Jw g o,F,out++[F],.own 0 1,[out.length+1],zd,zE,by simp[Qy],.inr ⟨rfl,zd,by simp;omega⟩,by simp;omega,hnx,hh,mW,zd⟩
    |(rintro row (⟨a,_,rfl⟩|rfl)<;>rfl)
    |exact Qb _ _
    |refine Qc _ rfl ?_
    |refine ag ?_
    |refine And.intro ?_ ?_
  |true=>
   rw[hf]at k21;have e1:iH g o F=o.fr:=by rw[e0,if_pos ⟨h5,hf⟩]
   rw[e1]at mW hnx;obtain⟨rfl,rfl,h1⟩|⟨rfl,rfl,h1⟩:=hO
   ·simp[f6,f5,ov,hw,aa,r1,r2,r3,tw,hdg,A1,h5,hf]
    repeat' first
     |exact k21
     |omega
     |exact⟨i+1,Jw g o,o.fr,out++[o.fr],.own 0 1,[out.length+1],zd,zE,by simp[Qy],.inr ⟨rfl,zd,by simp;omega⟩,by simp;omega,hnx,hh,mW,zd⟩
     |(rintro row (⟨a,_,rfl⟩|rfl)<;>rfl)
     |exact Qb _ _
     |refine Qc _ rfl ?_
     |refine ag ?_
     |refine And.intro ?_ ?_
   simp[f6,f5,ov,hw,aa,r1,r2,r3,tw,hdg,A1,h5,hf]
   repeat' first
    |exact k21
    |omega
    |exact⟨i+1,Jw g o,o.fr,out++[o.fr],.own 0 1,[out.length+1],zd,zE,by simp[Qy],.inr ⟨rfl,zd,by simp;omega⟩,by simp;omega,hnx,hh,mW,zd⟩
    |(rintro row (⟨a,_,rfl⟩|rfl)<;>rfl)
    |exact Qb _ _
    |refine Qc _ rfl ?_
    |refine ag ?_
    |refine And.intro ?_ ?_
 obtain rfl:i=L.length:=zE
 have aa:¬((L.length:Int)+1<(C.length:Int)):=zE
 rw[zzbt,j9,zzar]at hr;have atP:out.map Qy=[I 0]::(j9 g0 0 L).map Qy:=by rw[hr];rfl
 obtain⟨rfl,rfl,h1⟩|⟨rfl,rfl,h1⟩:=hO
 ·have h0:L=[]:=zzbx.1 zE;rw[if_pos h0];simp[f6,f5,ov,ajD,hw,aa,atP,Qy]
 have h0:L≠[]:=fun h=>by rw[h]at zT;simp at zT;omega
 rw[if_neg h0];simp[f6,f5,ov,ajD,hw,aa,atP,Qy]
