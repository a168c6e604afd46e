import Derived.Test.YthjppoincojfkaaGreatDoorRASnC
set_option linter.all false
set_option maxRecDepth 100000
set_option maxHeartbeats 64000000
namespace Go.Proofs.YthjppoincojfkaaGreatDoor
open Go Go.Abs
def atG(n:Nat)(f:Nat->AV)(m:AM):Prop:=∃(i:Nat),f 5=I i/\i<=n/\m=⟨[],[],fun _=>.gone,0⟩
def aao(l:List Sp)(hl:l.length<=8796093022208):Pure Tryz.prog aD 35 [.sl .ro (l.map Qe),.sl .ro (l.map Qe)] (.bool true):=by
 refine Qo ajA (fun _ _ _=>.junk) zd ?_;simp[ajz];refine Qk SK (atG l.length) (fun f _=>l.length-(numOf (f 5)).toNat) ?_ ?_
 ·exact⟨0,zd,zE,rfl⟩
 rintro f m ⟨i,f5,hi,rfl⟩;rcases zzaa i l.length with ai|bn
 ·obtain⟨s,hs⟩:=aV ai;have ah:Qj (l.map Qe) i=Qe s:=Qu (by simp[hs]);have aa:(i:Int)<(l.length:Int):=zE
  have hw:=bO i zE;simp[f5,SK,aa,hw,ah,Qe];refine⟨aQ,⟨i+1,zd,zE,rfl⟩,zE⟩
 obtain rfl:i=l.length:=zE
 simp[f5,SK,aoq]
def atH(a b:Pg)(f:Nat->AV)(m:AM):Prop:=∃(i:Nat)(bx:T5),f 7=I i/\i<=1500/\m=⟨Qh a::Qh b::bx,[],fun _=>.gone,0⟩
def aap(a b:Pg):UV:=fun d f l=>if f=34 then(match l with
 |[_,.int _ x]=>if d=28 then YW x (Yt x a.ev)else YW x (Yt x b.ev)
 |_=>.junk)else if f=35 then .bool true else .junk
structure atI (g:Pg):Prop where
 l:g.ev.length<=1000000000
 s:∀e∈g.ev,Jw e
def HO{f:Int}{e:bC}:∀{L:List bC},Yt f L=some e->e∈L
 |a::r,h=>by
  rw[Yt]at h;split at h
  ·cases h;simp
  exact zzdc _ (HO h)
def afL(a b:Pg)(n:Int)(ha:atI a)(hb:atI b)(h:∀x:Int,0<=x->x<n->shw x (Yt x b.ev)=shw x (Yt x a.ev)):Pure Tryz.prog aD 15 [.agg (Qh a),.agg (Qh b),I n] (.bool true):=by
 refine Qo ajq (aap a b) zd ?_;simp[ajo,Qh,Qa];refine Qk Eh (atH a b) (fun f _=>1500-(numOf (f 7)).toNat) ?_ ?_
 ·exact⟨0,[],zd,zE,rfl⟩
 rintro f m ⟨i,bx,f7,hi,rfl⟩;by_cases h1:(i:Int)<n
 ·by_cases h2:(i:Int)<1500
  ·have hw:IntKind.i64.wrap ((i:Int)+1)=(i:Int)+1:=by rw[Ql]<;>omega
   have ka:=qc a.ev i ha.l ha.s zE;have kb:=qc b.ev i hb.l hb.s zE;have hx:=h i zE h1;cases uQ:Yt (i:Int) a.ev with
   |none=>
    rw[uQ]at hx ka
    have ua:Yt (i:Int) b.ev=none:=by
     cases ua:Yt (i:Int) b.ev with
     |none=>rfl
     |some y=>rw[ua]at hx;cases hx
    rw[ua]at kb;have k35:Pure Tryz.prog aD 35 [.sl .nil [],.sl .nil []] (.bool true):=Xp (aao [] zd) ⟨Wk.sl _ _,Wk.sl _ _,trivial⟩;simp[f7,Eh,h1,h2,hw,aap,uQ,ua,YW,Oc,Qh,Qa];simp only[YW,Oc]at ka kb
    repeat' first
     |exact ka
     |exact kb
     |exact k35
     |omega
     |exact⟨i+1,_,zd,zE,by simp[Qh,Qa];rfl⟩
     |exact Qb _ _
     |refine Qc _ rfl ?_
     |refine ag ?_
     |refine And.intro ?_ ?_
   |some x=>
    rw[uQ]at hx ka;cases ua:Yt (i:Int) b.ev with
    |none=>rw[ua]at hx;cases hx
    |some y=>
     rw[ua]at hx kb;simp only[shw,zzcs,Option.some.injEq,Prod.mk.injEq]at hx;obtain⟨x1,x2,x3,x4,x5⟩:=hx;have k35:=aao x.al (ha.s x (HO uQ)).2.2.2;simp only[YW,Qf]at ka kb;rw[x1,x2,x3,x4,x5]at kb;simp[f7,Eh,h1,h2,hw,aap,uQ,ua,YW,Qf,x1,x2,x3,x4,x5,Qh,Qa]
     repeat' first
      |exact ka
      |exact kb
      |exact k35
      |omega
      |exact⟨i+1,_,zd,zE,by simp[Qh,Qa];rfl⟩
      |exact Qb _ _
      |refine Qc _ rfl ?_
      |refine ag ?_
      |refine And.intro ?_ ?_
  simp[f7,Eh,h1,h2,ajp]
 simp[f7,Eh,h1,ajp]
def aaq(q:Pl)(L:List Od):UV:=fun _ f l=>if f=11 then .bool true else if f=12 then .sl .ro (L.map Qq)else if f=14 then .agg (Qa q)else if f=13 then .sl .ro ((u9 q L).map Qh)else if f=15 then .bool true else .junk
def ax5(n:Nat)(f:Nat->AV)(m:AM):Prop:=∃(i:Nat)(bx:T5),f 7=I i/\i<=n/\m=⟨bx,[],fun _=>.gone,0⟩
def law3(p:Pl)(l:List Od)(hp:(∀e∈p.ens,e.al.length<=8796093022208)/\∀e∈p.ens,e.ea<=9223372036854775807)(hl:l.length<=1000000000000):Pure Tryz.prog aD 3 [.agg (Qa p),.sl .ro (l.map Qq)] (.bool true):=by
 have OH:=DX;have L3:=Qea p;have IJ:=Qeg l hl;have hL:=qi l;have hLo:=va l;generalize yR l=L at*
 have hq:PlL (zj p):=DY hp;have Ef:=qj (zj p) L hq hL (fun o ho=>(hLo o ho).1);generalize zj p=q at*
 have hC:=fun i g h=>yS hq.sh hL i g h;have hN:=fun i g o ho h=>HP (p:=q) (l:=L) (i:=i) (g:=g) (o:=o) ho h;have aH:=vf q L;refine Qo aoa (aaq q L) zd ?_;simp only[Qa]at Ef L3;simp[sc3,Qa,aaq];generalize u9 q L=C at*
 refine⟨OH,IJ,L3,Ef,?_⟩;refine Qk ajg (ax5 C.length) (fun f _=>C.length-(numOf (f 7)).toNat) ?_ ?_
 ·exact⟨0,_,zd,zE,rfl⟩
 rintro f m ⟨i,bx,f7,hi,rfl⟩;have hCl:C.length<=9:=by split at aH<;>omega
 have hw:IntKind.i64.wrap ((i:Int)+1)=(i:Int)+1:=by rw[Ql]<;>omega
 rcases zzaa (i+1) C.length with ai|bn
 ·have aa:((i:Int)+1)<(C.length:Int):=zE
  have hiL:i<L.length:=by split at aH<;>omega
  obtain⟨g,hg⟩:∃g,C[i]?=some g:=⟨_,zzaf zE⟩;obtain⟨o,ho⟩:=aV hiL;have hh:=hN i g o ho hg;have RJ:=hC i g hg;have hhP:=hC (i+1) _ hh;have r1:Qj (C.map Qh) i=Qh g:=Qu (by simp[hg]);have r2:Qj (C.map Qh) (i+1)=Qh (Xq g o):=Qu (by simp[hh]);have r3:Qj (L.map Qq) i=Qq o:=Qu (by simp[ho]);have k15:=afL g (Xq g o) o.fr ⟨by have:=RJ.ok.small.1;omega,RJ.ok.small.2⟩ ⟨by have:=hhP.ok.small.1;omega,hhP.ok.small.2⟩ (fun x _ hx=>afM RJ.ok zE hx);generalize Xq g o=h at*
  simp only[Qa,Qh,Qq,Qd,Qg,Qi,zzad,zzai]at r1 r2 r3 k15;simp[f7,ajg,aa,hw,r1,r2,r3,aaq]
  repeat' first
   |exact k15
   |omega
   |exact⟨i+1,_,zd,zE,rfl⟩
   |exact Qb _ _
   |refine Qc _ rfl ?_
   |refine ag ?_
   |refine And.intro ?_ ?_
 have aa:¬((i:Int)+1)<(C.length:Int):=zE
 simp[f7,ajg,aa,hw,rs3]
