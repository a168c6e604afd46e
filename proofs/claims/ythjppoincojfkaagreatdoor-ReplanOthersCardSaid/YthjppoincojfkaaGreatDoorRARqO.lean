import Derived.Test.YthjppoincojfkaaGreatDoorRASnC
set_option linter.all false
set_option maxRecDepth 100000
set_option maxHeartbeats 64000000
namespace Go.Proofs.YthjppoincojfkaaGreatDoor
open Go Go.Abs
def HQ(q:Pl)(L:List Od):UV:=fun _ f l=>if f=11 then .bool true else if f=12 then .sl .ro (L.map Qq)else if f=14 then .agg (Qa q)else if f=13 then .sl .ro ((u9 q L).map Qh)else if f=21 then(match l with
 |[.agg a,.agg b]=>.bool (rU (dPg a) (dOd b))
 |_=>.junk)else if f=22 then(match l with
 |[.agg b]=>.bool (Vi (dOd b))
 |_=>.junk)else if f=23 then .bool true else .junk
def ax6(n:Nat)(f:Nat->AV)(m:AM):Prop:=∃(i:Nat)(bx:T5),f 7=I i/\i<=n/\m=⟨bx,[],fun _=>.gone,0⟩
theorem aar(g:Pg)(v:Int):Qh {g with ve:=v}=Qa g.p++[.sl .ro (g.ev.map Qf),.sl .ro (g.cu.map Qi),I g.ed,.sl .ro (g.dr.map Xa),I v]:=rfl
def law7(p:Pl)(l:List Od)(hp:(∀e∈p.ens,e.al.length<=8796093022208)/\∀e∈p.ens,e.ea<=9223372036854775807)(hl:l.length<=1000000000000):Pure Tryz.prog aD 7 [.agg (Qa p),.sl .ro (l.map Qq)] (.bool true):=by
 have OH:=DX;have L3:=Qea p;have IJ:=Qeg l hl;have hL:=qi l;have hLo:=va l;generalize yR l=L at*
 have hq:PlL (zj p):=DY hp;have Ef:=qj (zj p) L hq hL (fun o ho=>(hLo o ho).1);generalize zj p=q at*
 have hC:=fun i g h=>yS hq.sh hL i g h;have hN:=fun i g o ho h=>HP (p:=q) (l:=L) (i:=i) (g:=g) (o:=o) ho h;have aH:=vf q L;refine Qo aoc (HQ q L) zd ?_;simp only[Qa]at Ef L3;simp[sc7,Qa,HQ];generalize u9 q L=C at*
 refine⟨OH,IJ,L3,Ef,?_⟩;refine Qk SD (ax6 C.length) (fun f _=>C.length-(numOf (f 7)).toNat) ?_ ?_
 ·exact⟨0,_,zd,zE,rfl⟩
 rintro f m ⟨i,bx,f7,hi,rfl⟩;have hCl:C.length<=9:=by split at aH<;>omega
 have hw:IntKind.i64.wrap ((i:Int)+1)=(i:Int)+1:=by rw[Ql]<;>omega
 rcases zzaa (i+1) C.length with ai|bn
 ·have aa:((i:Int)+1)<(C.length:Int):=zE
  have hiL:i<L.length:=by split at aH<;>omega
  obtain⟨g,hg⟩:∃g,C[i]?=some g:=⟨_,zzaf zE⟩;obtain⟨o,ho⟩:=aV hiL;have hh:=hN i g o ho hg;have RJ:=hC i g hg;have hhP:=hC (i+1) _ hh;have r1:Qj (C.map Qh) i=Qh g:=Qu (by simp[hg]);have r2:Qj (C.map Qh) (i+1)=Qh (Xq g o):=Qu (by simp[hh]);have r3:Qj (L.map Qq) i=Qq o:=Qu (by simp[ho]);have RK:dPg (Qh g)=g:=by rw[qd,RJ.nn]
  have sD:=Qep o;have oOK:=(hLo o (zzae ho)).1;have k21:=rV g o (mO RJ.ok zE oOK);have Sw:=jW o (by have h:=oOK;unfold qf at h;omega);have kve:(Xq g o).ve=(i:Int)+1:=by have:=hhP.ok.ve;rw[this];omega
  cases hf:rU g o with
  |true=>
   obtain⟨v1,v2⟩:=RL hf;rw[hf]at k21;rw[v1]at Sw;generalize Xq g o=h at*
   simp only[Qa,Qh,Qq,Qd,Qg,Qi,zzad,zzai]at r1 r2 r3 k21 Sw RK sD;by_cases fE:o.ch= -1
   ·rw[fE]at k21 Sw sD r3;simp[f7,SD,aa,hw,r1,r2,r3,HQ,RK,sD,hf,v1,kve]
    repeat' first
     |exact k21
     |exact Sw
     |omega
     |exact⟨i+1,_,zd,zE,rfl⟩
     |exact Qb _ _
     |refine Qc _ rfl ?_
     |refine ag ?_
     |refine And.intro ?_ ?_
   have v3:o.ch=g.p.ch:=v2.resolve_left fE;rw[v3]at fE;rw[v3]at k21 Sw sD r3;simp[f7,SD,aa,hw,r1,r2,r3,HQ,RK,sD,hf,v1,fE,kve]
   repeat' first
    |exact k21
    |exact Sw
    |omega
    |exact⟨i+1,_,zd,zE,rfl⟩
    |exact Qb _ _
    |refine Qc _ rfl ?_
    |refine ag ?_
    |refine And.intro ?_ ?_
  |false=>
   have e1:Xq g o={g with ve:=(i:Int)+1}:=by
    have:=L5 RJ hf;have e0:Xq g o={{Xq g o with ve:=g.ve}with ve:=(Xq g o).ve}:=rfl;rw[e0,this,kve]
   rw[e1,aar]at r2;have k23:=LR g (RJ.ok.sm zE);have hve:=RJ.ok.ve;rw[hf]at k21;simp only[Qa,Qh,Qq,Qd,Qg,Qi,zzad,zzai]at r1 r2 r3 k21 Sw k23 RK sD;simp[f7,SD,aa,hw,r1,r2,r3,HQ,RK,sD,hf];rw[hve]at k23 k21 |-
   repeat' first
    |exact k21
    |exact k23
    |omega
    |exact⟨i+1,_,zd,zE,rfl⟩
    |exact Qb _ _
    |refine Qc _ rfl ?_
    |refine ag ?_
    |refine And.intro ?_ ?_
 have aa:¬((i:Int)+1)<(C.length:Int):=zE
 simp[f7,SD,aa,hw,rs7]
