import Derived.Test.YthjppoincojfkaaGreatDoorRPRpC
set_option linter.all false
set_option maxRecDepth 100000
set_option maxHeartbeats 64000000
namespace Go.Proofs.YthjppoincojfkaaGreatDoor
open Go Go.Abs
def j6:Pg->Int->List Od->Pi
 |_,_,[]=>[]
 |g,F,o::r=>zY g o F::j6 (Jw g o) (zY g o F) r
def HM:∀(g:Pg)(F:Int)(l:List Od),(j6 g F l).length=l.length
 |_,_,[]=>rfl
 |g,F,o::r=>by rw[j6,zzaz,zzaz,HM]
def OP:∀{l:List Od}{g:Pg}{F:Int}{k:Nat},ChP k g->DR g F->k+l.length<=900->(0<=F/\F<=100000000)->(∀o∈l,F<=o.fr)->l.Pairwise (fun a b=>a.fr<=100000000->a.fr<=b.fr)->
  ∀(i:Nat)(h:Pg)(E:Int),(g::Ka g l)[i]?=some h->(F::j6 g F l)[i]?=some E->DR h E/\0<=E/\E<=100000000
 |l,g,F,k,hg,hp,hk,hF,cn,Wf,0,h,E,e1,e2=>by
  simp at e1 e2;subst e1;subst e2;exact⟨hp,hF⟩
 |[],g,F,k,hg,hp,hk,hF,cn,Wf,i+1,h,E,e1,e2=>by simp[Ka]at e1
 |o::r,g,F,k,hg,hp,hk,hF,cn,Wf,i+1,h,E,e1,e2=>by
  rw[Ka,zzcc]at e1;rw[j6,zzcc]at e2;simp only[zzaz]at hk;obtain⟨p1,p2⟩:=zzby.1 Wf;have h1:=RQ (k:=k) (o:=o) hp (fun _=>cn o zd)
  have hE:(0<=zY g o F/\zY g o F<=100000000)/\∀x∈r,zY g o F<=x.fr:=by
   unfold zY;split
   ·rename_i hc;have hv:=(RS hc.2).1;obtain⟨v1,_⟩:=jY hv;exact⟨v1,fun x hx=>p1 x hx v1.2⟩
   exact⟨hF,fun x hx=>cn x (by simp[hx])⟩
  exact OP (hg.step (o:=o) zE) h1.dZ zE hE.1 hE.2 p2 i h E e1 e2
def auh(o:Pi)(rt:Rt)(ls:Pa):Prop:=(rt=.full/\ls=[]/\o.length=1)\/(rt=.own 0 1/\ls=[o.length]/\2<=o.length)
def aui(C:List Pg)(L:List Od)(E:Pi)(f:Nat->AV)(m:AM):Prop:=
 ∃(i:Nat)(g:Pg)(F:Int)(out:Pi)(rt:Rt)(ls:Pa),f 6=I i/\i<=L.length/\f 5=.sl rt (out.map Qy)/\auh out rt ls/\out.length=i+1/\out[i]?=some F/\C[i]?=some g/\out++j6 g F (L.drop i)=E/\m=⟨[],ls,fun _=>.gone,0⟩
def tf:UV:=fun _ f l=>if f=21 then(match l with
 |[.agg a,.agg b]=>.bool (iu (dPg a) (dOd b))
 |_=>.junk)else .junk
def RW(C:List Pg)(L:List Od)(g0:Pg)(FF:C=g0::Ka g0 L)(hC:∀i g,C[i]?=some g->ChP i g)(hL:L.length<=8)(hLo:∀o∈L,zW o):
  Pure Tryz.prog aD 16 [.sl .ro (C.map Qm),.sl .ro (L.map Qq)] (.sl .ro ((0::j6 g0 0 L).map Qy)):=by
 have hCl:C.length=L.length+1:=by rw[FF,zzaz,lz]
 have hN:∀i h o,L[i]?=some o->C[i]?=some h->C[i+1]?=some (Jw h o):=fun i h o h1 h2=>by rw[FF]at h2 |-;exact BC i h o h1 h2
 have h00:C[0]?=some g0:=by rw[FF];rfl
 clear FF
 suffices h:∃rt,Pure Tryz.prog aD 16 [.sl .ro (C.map Qm),.sl .ro (L.map Qq)] (.sl rt ((0::j6 g0 0 L).map Qy)) by
  obtain⟨rt,h⟩:=h;exact Zh h (Wk.sl _ _)
 refine⟨if L=[]then .full else .ro,Qp ajN tf zd ?_⟩;simp[ajL,tf];refine Qi oB (aui C L (0::j6 g0 0 L)) (fun f _=>L.length-(numOf (f 6)).toNat) ?_ ?_
 ·exact⟨0,g0,0,[0],.full,[],zd,zE,by simp[Qy],.inl ⟨rfl,rfl,rfl⟩,rfl,rfl,h00,rfl,zd⟩
 rintro f m ⟨i,g,F,out,rt,ls,f6,hi,f5,hO,zF,hF,hg,hr,rfl⟩;have hw:IntKind.i64.wrap ((i:Int)+1)=(i:Int)+1:=by rw[Ql]<;>omega
 rcases zzaa i L.length with ai|bq
 ·have aa:(i:Int)+1<(C.length:Int):=zE
  obtain⟨o,ho⟩:=aV ai;have SL:=hC i g hg;have hh:=hN i g o ho hg;have r1:Qh (C.map Qm) i=Qm g:=Qu (by simp[hg]);have r2:Qh (L.map Qq) i=Qq o:=Qu (by simp[ho]);have r3:Qh (out.map Qy) i=[I F]:=Qu (by simp[hF,Qy]);have k21:=rO g o (Bv SL.ok zE (hLo o (zzad ho)));have hdg:dPg (Qm g)=g:=by rw[OJ,SL.nn]
  have AP:=DQ o;have hd:L.drop i=o::L.drop (i+1):=by rw[zzag ai,(zza.1 ho).2]
  rw[hd,j6]at hr;have hiC:i<C.length:=zE
  have AJ:i<out.length:=zE
  have mY:(out++[zY g o F])++j6 (Jw g o) (zY g o F) (L.drop (i+1))=0::j6 g0 0 L:=by rw[<- hr];simp
  have hnx:(out++[zY g o F])[i+1]?=some (zY g o F):=by rw[zzao zE,zF];simp
  simp only[Qa,Qm,Qq,Qd,Qg,Qk,zzae,zzai]at r1 r2 k21 hdg AP;have e0:zY g o F=if o.ki≠5/\iu g o=true then o.fr else F:=rfl;by_cases h5:o.ki=5
  ·have e1:zY g o F=F:=by rw[e0,if_neg (by simp[h5])]
   rw[e1]at mY hnx;rw[h5]at r2 AP k21;obtain⟨rfl,rfl,h1⟩|⟨rfl,rfl,h1⟩:=hO
   ·simp[f6,f5,oB,hw,aa,r1,r2,r3,tf,hdg,AP]
    repeat' first
     |exact k21
     |omega
     |exact⟨i+1,Jw g o,F,out++[F],.own 0 1,[out.length+1],zd,zE,by simp[Qy],.inr ⟨rfl,zd,by simp;omega⟩,by simp;omega,hnx,hh,mY,zd⟩
     |(rintro row (⟨a,_,rfl⟩|rfl)<;>rfl)
     |exact Qb _ _
     |refine Qc _ rfl ?_
     |refine ag ?_
     |refine And.intro ?_ ?_
   simp[f6,f5,oB,hw,aa,r1,r2,r3,tf,hdg,AP]
   repeat' first
    |exact k21
    |omega
    |exact⟨i+1,Jw g o,F,out++[F],.own 0 1,[out.length+1],zd,zE,by simp[Qy],.inr ⟨rfl,zd,by simp;omega⟩,by simp;omega,hnx,hh,mY,zd⟩
    |(rintro row (⟨a,_,rfl⟩|rfl)<;>rfl)
    |exact Qb _ _
    |refine Qc _ rfl ?_
    |refine ag ?_
    |refine And.intro ?_ ?_
  cases hf:iu g o with
  |false=>
   rw[hf]at k21;have e1:zY g o F=F:=by rw[e0,if_neg (by simp[hf])]
   rw[e1]at mY hnx;obtain⟨rfl,rfl,h1⟩|⟨rfl,rfl,h1⟩:=hO
   ·simp[f6,f5,oB,hw,aa,r1,r2,r3,tf,hdg,AP,h5,hf]
    repeat' first
     |exact k21
     |omega
     |exact⟨i+1,Jw g o,F,out++[F],.own 0 1,[out.length+1],zd,zE,by simp[Qy],.inr ⟨rfl,zd,by simp;omega⟩,by simp;omega,hnx,hh,mY,zd⟩
     |(rintro row (⟨a,_,rfl⟩|rfl)<;>rfl)
     |exact Qb _ _
     |refine Qc _ rfl ?_
     |refine ag ?_
     |refine And.intro ?_ ?_
   simp[f6,f5,oB,hw,aa,r1,r2,r3,tf,hdg,AP,h5,hf]
   repeat' first
    |exact k21
    |omega
    |exact⟨i+1,Jw g o,F,out++[F],.own 0 1,[out.length+1],zd,zE,by simp[Qy],.inr ⟨rfl,zd,by simp;omega⟩,by simp;omega,hnx,hh,mY,zd⟩
    |(rintro row (⟨a,_,rfl⟩|rfl)<;>rfl)
    |exact Qb _ _
    |refine Qc _ rfl ?_
    |refine ag ?_
    |refine And.intro ?_ ?_
  |true=>
   rw[hf]at k21;have e1:zY g o F=o.fr:=by rw[e0,if_pos ⟨h5,hf⟩]
   rw[e1]at mY hnx;obtain⟨rfl,rfl,h1⟩|⟨rfl,rfl,h1⟩:=hO
   ·simp[f6,f5,oB,hw,aa,r1,r2,r3,tf,hdg,AP,h5,hf]
    repeat' first
     |exact k21
     |omega
     |exact⟨i+1,Jw g o,o.fr,out++[o.fr],.own 0 1,[out.length+1],zd,zE,by simp[Qy],.inr ⟨rfl,zd,by simp;omega⟩,by simp;omega,hnx,hh,mY,zd⟩
     |(rintro row (⟨a,_,rfl⟩|rfl)<;>rfl)
     |exact Qb _ _
     |refine Qc _ rfl ?_
     |refine ag ?_
     |refine And.intro ?_ ?_
   simp[f6,f5,oB,hw,aa,r1,r2,r3,tf,hdg,AP,h5,hf]
   repeat' first
    |exact k21
    |omega
    |exact⟨i+1,Jw g o,o.fr,out++[o.fr],.own 0 1,[out.length+1],zd,zE,by simp[Qy],.inr ⟨rfl,zd,by simp;omega⟩,by simp;omega,hnx,hh,mY,zd⟩
    |(rintro row (⟨a,_,rfl⟩|rfl)<;>rfl)
    |exact Qb _ _
    |refine Qc _ rfl ?_
    |refine ag ?_
    |refine And.intro ?_ ?_
 obtain rfl:i=L.length:=zE
 have aa:¬((L.length:Int)+1<(C.length:Int)):=zE
 rw[zzbu,j6,zzau]at hr;have auj:out.map Qy=[I 0]::(j6 g0 0 L).map Qy:=by rw[hr];rfl
 obtain⟨rfl,rfl,h1⟩|⟨rfl,rfl,h1⟩:=hO
 ·have h0:L=[]:=zzc.1 zE;rw[if_pos h0];simp[f6,f5,oB,ajM,hw,aa,auj,Qy]
 have h0:L≠[]:=fun h=>by rw[h]at zF;simp at zF;omega
 rw[if_neg h0];simp[f6,f5,oB,ajM,hw,aa,auj,Qy]
