import Derived.Test.YthjppoincojfkaaGreatDoorRASnC
set_option linter.all false
set_option maxRecDepth 100000
set_option maxHeartbeats 64000000
namespace Go.Proofs.YthjppoincojfkaaGreatDoor
open Go Go.Abs
def ai3(q:Pl)(L:List Od):UV:=fun _ f l=>if f=11 then .bool true else if f=12 then .sl .ro (L.map Qq)else if f=14 then .agg (Qa q)else if f=13 then .sl .ro ((u9 q L).map Qh)else .junk
def ax4(n:Nat)(f:Nat->AV)(m:AM):Prop:=∃(i:Nat)(bx:T5),f 7=I i/\i<=n/\m=⟨bx,[],fun _=>.gone,0⟩
def atE(g:Pg)(f:Nat->AV)(m:AM):Prop:=∃(k:Nat)(a:Int)(bx:T5),f 9=I k/\f 8=I a/\k<=g.ev.length/\iL a g.p.ln (g.ev.drop k)/\m=⟨bx,[],fun _=>.gone,0⟩
def law4(p:Pl)(l:List Od)(hp:(∀e∈p.ens,e.al.length<=8796093022208)/\∀e∈p.ens,e.ea<=9223372036854775807)(hl:l.length<=1000000000000):Pure Tryz.prog aD 4 [.agg (Qa p),.sl .ro (l.map Qq)] (.bool true):=by
 have OH:=DX;have L3:=Qea p;have IJ:=Qeg l hl;have hL:=qi l;have hLo:=va l;generalize yR l=L at*
 have hq:PlL (zj p):=DY hp;have Ef:=qj (zj p) L hq hL (fun o ho=>(hLo o ho).1);generalize zj p=q at*
 have hT:=fun i g h=>atF hq.sh hL i g h;have hC:=fun i g h=>yS hq.sh hL i g h;refine Qo aob (ai3 q L) zd ?_;simp only[Qa]at Ef L3;simp[sc4,Qa,ai3];have aH:=vf q L;generalize u9 q L=C at*
 refine⟨OH,L3,IJ,Ef,?_⟩;refine Qk ajh (ax4 C.length) (fun f _=>C.length-(numOf (f 7)).toNat) ?_ ?_
 ·exact⟨0,_,zd,zE,rfl⟩
 rintro f m ⟨i,bx,f7,hi,rfl⟩;have hCl:C.length<=9:=by split at aH<;>omega
 rcases zzaa i C.length with ai|bn
 ·have aa:(i:Int)<(C.length:Int):=zE
  have hw:IntKind.i64.wrap ((i:Int)+1)=(i:Int)+1:=by rw[Ql]<;>omega
  obtain⟨g,hg⟩:=aV ai;have RJ:=hC i g hg;have hgT:=hT i g hg;have dG:=RJ.ok.ln;have PU:=RJ.ok.small.1;have r1:Qj (C.map Qh) i=Qh g:=Qu (by simp[hg]);simp only[Qa,Qh,zzad,zzai]at r1;simp[f7,ajh,aa];refine Qk aji (atE g) (fun f _=>g.ev.length-(numOf (f 9)).toNat) ?_ ?_
  ·exact⟨0,0,_,zd,zd,zE,hgT,rfl⟩
  rintro f m ⟨k,a,bx,f9,f8,hk,ht,rfl⟩;rcases zzaa k g.ev.length with oQ|hkg
  ·have P4:(k:Int)<(g.ev.length:Int):=zE
   have P5:IntKind.i64.wrap ((k:Int)+1)=(k:Int)+1:=by rw[Ql]<;>omega
   obtain⟨e,he⟩:=aV oQ;have r2:Qj (g.ev.map Qf) k=Qf e:=Qu (by simp[he]);have hd:g.ev.drop k=e::g.ev.drop (k+1):=by rw[zzag oQ,(zza.1 he).2]
   rw[hd]at ht;obtain⟨h1,h2,h3,h4⟩:=ht;have cB:=h4.le;have hsm:=RJ.ok.small.2 e (zzae he);obtain⟨⟨s1,s2⟩,⟨s3,s4⟩,_⟩:=hsm;have hwa:IntKind.i64.wrap (e.st+e.fr)=e.st+e.fr:=by rw[Ql]<;>omega
   have Im:¬e.fr<1:=zE
   have h3':¬e.i<0:=zE
   subst h1;simp only[Qf]at r2;simp[f7,f8,f9,aji,aa,r1,r2,P4,P5,hwa,Im,h3'];refine⟨aQ,⟨k+1,e.st+e.fr,_,zd,zd,zE,h4,rfl⟩,zE⟩
  obtain rfl:k=g.ev.length:=zE
  rw[zzbv]at ht;have ha:a=g.p.ln:=ht;simp[f7,f8,f9,aji,aa,r1,ha,hw];refine⟨aQ,⟨i+1,_,zd,zE,rfl⟩,zE⟩
 have aa:¬(i:Int)<(C.length:Int):=zE
 simp[f7,ajh,aa,rs4]
