import Derived.Test.YthjppoincojfkaaGreatDoorRSRqG
import Derived.Test.YthjppoincojfkaaGreatDoorRSRqN
set_option linter.all false
set_option maxRecDepth 100000
set_option maxHeartbeats 64000000
namespace Go.Proofs.YthjppoincojfkaaGreatDoor
open Go Go.Abs
def HK:∀{l:List Od}{g:Pg}{F:Int}{k:Nat},ChP k g->j8 g F->k+l.length<=900->0<=F->(∀o∈l,0<=o.fr)->
  ∀(i:Nat)(h:Pg)(E:Int),(g::Ka g l)[i]?=some h->(F::j9 g F l)[i]?=some E->j8 h E/\0<=E
 |l,g,F,k,hg,hp,hk,h0,hl,0,h,E,e1,e2=>by
  simp at e1 e2;subst e1;subst e2;exact⟨hp,h0⟩
 |[],g,F,k,hg,hp,hk,h0,hl,i+1,h,E,e1,e2=>by simp[Ka]at e1
 |o::r,g,F,k,hg,hp,hk,h0,hl,i+1,h,E,e1,e2=>by
  rw[Ka,zzcf]at e1;rw[j9,zzcf]at e2;simp only[zzaz]at hk;exact HK (hg.step (o:=o) zE) (L6 hg.ok zE hp).eN zE (by unfold iH;split;exact hl o zd;exact h0) (fun x hx=>hl x (by simp[hx])) i h E e1 e2
def qd(q:Pl)(L:List Od)(E:Pi):UV:=fun _ f l=>if f=11 then .bool true else if f=12 then .sl .ro (L.map Qq)else if f=14 then .agg (Qa q)else if f=13 then .sl .ro ((DZ q L).map Qj)else if f=16 then .sl .ro (E.map Qy)else if f=19 then(match l with
 |[.sl _ r,.int _ id]=>.aS [I (mH (r.map dEv) id).1,.bool (mH (r.map dEv) id).2]
 |_=>.junk)else if f=20 then(match l with
 |[.sl _ r,.int _ id]=>.bool (decide (id∈r.map fun x=>dI (dN x 0)))
 |_=>.junk)else .junk
def ayh(n:Nat)(f:Nat->AV)(m:AM):Prop:=∃(i:Nat)(bx:T5),f 8=I i/\i<=n/\m=⟨bx,[],fun _=>.gone,0⟩
def ajh(s n:Nat)(bx:T5)(g:Pg)(f:Nat->AV)(m:AM):Prop:=∃(k:Nat)(bx2:T5),f s=I k/\k<=n/\m=⟨bx++(Qj g::bx2),[],fun _=>.gone,0⟩
def afU(l:Pi):(l.map Qy).map (fun x=>dI (dN x 0))=l:=Qcs (fun _=>rfl) l
def law6(p:Pl)(l:List Od)(hp:(∀e∈p.ens,e.al.length<=8796093022208)/\∀e∈p.ens,e.ea<=9223372036854775807)(hl:l.length<=1000000000000):Pure Tryz.prog aD 6 [.agg (Qa p),.sl .ro (l.map Qq)] (.bool true):=by
 have k11:=am9;have k14:=LF p;have k12:=L7 l hl;have hL:=aaz l;have hLo:=afV l;generalize HL l=L at*
 have hq:PlL (Rz p):=ana hp;have k13:=aaA (Rz p) L hq hL (fun o ho=>(hLo o ho).1);generalize Rz p=q at*
 have hC:=fun i g h=>aaB hq.sh hL i g h;simp only[Qa]at k13 k14;by_cases hb:DS q=0
 ·have FD:DZ q L=eN (Jl q)::Ka (eN (Jl q)) L:=by unfold DZ;rw[if_pos hb]
  have k16:=R3 _ L _ FD hC hL (fun o ho=>(hLo o ho).1)
  have hP:∀(i:Nat)(g:Pg)(F:Int),(DZ q L)[i]?=some g->(0::j9 (eN (Jl q)) 0 L)[i]?=some F->j8 g F/\0<=F:=by
   intro i g F h1 h2;rw[FD]at h1;exact HK (k:=0) ⟨(vf hq.sh hb).eN,vi _⟩ (aaw hb).eN zE zE (fun o ho=>(hLo o ho).2) i g F h1 h2
  have hEl:(0::j9 (eN (Jl q)) 0 L).length=(DZ q L).length:=by rw[FD,zzaz,zzaz,HJ,lC]
  have aO:DZ q L≠[]:=by rw[FD];simp
  have hCl:(DZ q L).length<=9:=by rw[FD,zzaz,lC];omega
  generalize 0::j9 (eN (Jl q)) 0 L=E at*
  clear FD;refine Qp agk (qd q L E) zd ?_;generalize hCx:DZ q L=C at*
  simp[sc6,Qa,qd,hCx,aO];refine⟨k11,k12,k14,k13,k16,?_⟩;refine Qi ajw (ayh C.length) (fun f _=>C.length-(numOf (f 8)).toNat) ?_ ?_
  ·exact⟨0,_,zd,zE,rfl⟩
  rintro f m ⟨i,bx,f8,hi,rfl⟩;rcases zzaa i C.length with ah|bq
  ·have aa:(i:Int)<(C.length:Int):=zE
   have hw:IntKind.i64.wrap ((i:Int)+1)=(i:Int)+1:=by rw[Ql]<;>omega
   obtain⟨g,hg⟩:=aV ah;obtain⟨F,hF⟩:∃F,E[i]?=some F:=⟨_,zzaf zE⟩;have hgP:=hC i g hg;obtain⟨hO,F0⟩:=hP i g F hg hF;have Rm:=hgP.ok.small.1;have azn:=hgP.ok.ens;have hiE:i<E.length:=zE
   have r1:Qh (C.map Qj) i=Qj g:=Qu (by simp[hg]);have r3:Qh (E.map Qy) i=[I F]:=Qu (by simp[hF,Qy])
   have hdv:(g.ev.map Qf).map dEv=g.ev:=by
    rw[OM];exact congrArg Pg.ev hgP.nn
   have ei:=afU g.dr;have R4:=fun id=>am8 g.ev id zE hgP.ok.small.2;have k20:=fun n=>atT g.dr n (by have:=hgP.ok.dr;omega);have hov:=fun id(aL:id≠0)=>BL (last:=zE2) (hO.run id aL) (fun e he=>(hgP.ok.small.2 e he).1.1);simp only[Qa,Qj,zzae,zzai]at r1;simp[f8,ajw,aa,r1];refine Qi S0 (ajh 10 g.p.ens.length bx g) (fun f _=>g.p.ens.length-(numOf (f 10)).toNat) ?_ ?_
   ·exact⟨0,[],zd,zE,by simp[Qa,Qj]⟩
   rintro f2 m2 ⟨k,bx2,f10,hk,rfl⟩;rcases zzaa k g.p.ens.length with qt|hkg
   ·have fk:(k:Int)<(g.p.ens.length:Int):=zE
    have sF:IntKind.i64.wrap ((k:Int)+1)=(k:Int)+1:=by rw[Ql]<;>omega
    obtain⟨x,hx⟩:=aV qt;have hxm:=zzad hx;have r2:Qh (g.p.ens.map Qd) k=Qd x:=Qu (by simp[hx]);have yU:x.id≠0:=by have:=(OG hgP.ok.v x hxm).1;omega
    have R4:=R4 x.id;have k20:=k20 x.id;simp only[Qd]at r2;rcases hov x.id yU with⟨v1,v2⟩|⟨a,r,v1,v0,v2⟩
    ·have v2:mH g.ev x.id=(-1,true):=v2;have hd:=hO.sh x hxm v1;have hFn:¬F <= -1:=zE
     rw[v2]at R4;rw[decide_eq_true hd]at k20;simp[f8,f10,S0,aa,r1,r2,r3,hiE,fk,sF,Qa,Qj,qd,hdv,ei,v2,hd,hFn]
     repeat' first
      |exact R4
      |exact k20
      |exact⟨k+1,bx2++[Qd x],zd,zE,by simp[Qa,Qj,Qd]⟩
      |omega
      |exact Qb _ _
      |refine Qc _ rfl ?_
      |refine ag ?_
      |refine And.intro ?_ ?_
    have v2:mH g.ev x.id=(a.st,true):=v2;have ayi:=hO.win x hxm a r v1;rw[v2]at R4;have fB:¬a.st<0:=zE
    by_cases uH:F<=a.st
    ·obtain⟨w1,w2,w3⟩:=ayi uH;rw[decide_eq_false w1]at k20;have w2':¬a.st<x.ea:=zE
     have w3':¬x.la<a.st:=zE
     simp[f8,f10,S0,aa,r1,r2,r3,hiE,fk,sF,Qa,Qj,qd,hdv,ei,v2,fB,uH,w1,w2',w3']
     repeat' first
      |exact R4
      |exact k20
      |exact⟨k+1,bx2++[Qd x],zd,zE,by simp[Qa,Qj,Qd]⟩
      |omega
      |exact Qb _ _
      |refine Qc _ rfl ?_
      |refine ag ?_
      |refine And.intro ?_ ?_
    simp[f8,f10,S0,aa,r1,r2,r3,hiE,fk,sF,Qa,Qj,qd,hdv,ei,v2,fB,uH]
    repeat' first
     |exact R4
     |exact k20
     |exact⟨k+1,bx2++[Qd x],zd,zE,by simp[Qa,Qj,Qd]⟩
     |omega
     |exact Qb _ _
     |refine Qc _ rfl ?_
     |refine ag ?_
     |refine And.intro ?_ ?_
   have fk:¬(k:Int)<(g.p.ens.length:Int):=zE
   simp[f8,f10,S0,aa,r1,fk,Qa,Qj];refine Qi abk (ajh 15 g.ev.length bx g) (fun f _=>g.ev.length-(numOf (f 15)).toNat) ?_ ?_
   ·exact⟨0,bx2,zd,zE,by simp[Qa,Qj]⟩
   rintro f3 m3 ⟨j,bx3,f15,hj,rfl⟩;rcases zzaa j g.ev.length with gQ|hjg
   ·have dH:(j:Int)<(g.ev.length:Int):=zE
    have sU:IntKind.i64.wrap ((j:Int)+1)=(j:Int)+1:=by rw[Ql]<;>omega
    obtain⟨e,he⟩:=aV gQ;have r4:Qh (g.ev.map Qf) j=Qf e:=Qu (by simp[he]);have R4:=R4 e.id;simp only[Qf]at r4;by_cases h0:e.id=0
    ·rw[h0]at r4 R4;simp[f8,f15,abk,dH,sU,r4,Qa,Qj,qd,hdv]
     repeat' first
      |exact R4
      |exact⟨j+1,bx3,zd,zE,by simp[Qa,Qj]⟩
      |omega
      |exact Qb _ _
      |refine Qc _ rfl ?_
      |refine ag ?_
      |refine And.intro ?_ ?_
    have v2:(mH g.ev e.id).2=true:=by
     rcases hov e.id h0 with⟨_,v⟩|⟨a,r,_,_,v⟩
     ·have v:mH g.ev e.id=(-1,true):=v;rw[v]
     have v:mH g.ev e.id=(a.st,true):=v;rw[v]
    rw[v2]at R4;simp[f8,f15,abk,dH,sU,r4,Qa,Qj,qd,hdv,v2]
    repeat' first
     |exact R4
     |exact⟨j+1,bx3,zd,zE,by simp[Qa,Qj]⟩
     |omega
     |exact Qb _ _
     |refine Qc _ rfl ?_
     |refine ag ?_
     |refine And.intro ?_ ?_
   have dH:¬(j:Int)<(g.ev.length:Int):=zE
   simp[f8,f15,abk,dH,hw,Qa,Qj]
   repeat' first
    |exact⟨i+1,_,zd,zE,rfl⟩
    |omega
    |exact Qb _ _
    |refine Qc _ rfl ?_
    |refine ag ?_
    |refine And.intro ?_ ?_
  have aa:¬(i:Int)<(C.length:Int):=zE
  simp[f8,ajw,aa,rs6]
 have FD:DZ q L=[]:=by unfold DZ;rw[if_neg hb]
 rw[FD]at k13;refine Qp agk (qd q L []) zd ?_;simp[sc6,rs6,Qa,qd,FD];exact⟨k11,k12,k14,k13⟩
