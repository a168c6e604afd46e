import Derived.Test.YtnopaopphmjnmaaGreatDoorMLSpG
set_option linter.all false
set_option maxRecDepth 100000
set_option maxHeartbeats 64000000
namespace Go.Proofs.YtnopaopphmjnmaaGreatDoor
open Go Go.Abs
def Ua(n lo up:Int):Pure Tryz.prog az 265 [I n,I lo,I up] (.bool (wi n lo up)):=by
 refine Qn adX (fun _ _ _=>.junk) (by simp) ?_;by_cases h1:lo<=n<;>by_cases h2:n<=up<;>simp[aiH,aiI,wi,h1,h2]
def ajY(e:It):Pure Tryz.prog az 56 [.agg (Qm e)] (I e.id):=by
 refine Qn TJ (fun _ _ _=>.junk) (by simp) ?_;simp[ak2,Qm,ak3]
def xD(e:Bk):Pure Tryz.prog az 268 [.agg (Xg e)] (I e.id):=by
 refine Qn ad0 (fun _ _ _=>.junk) (by simp) ?_;simp[aiJ,Xg,aiK]
def xE(e:Sp):Pure Tryz.prog az 314 [.agg (Qe e)] (I e.1):=by
 refine Qn aeh (fun _ _ _=>.junk) (by simp) ?_;simp[aiZ,Qe,ai0]
def Tr(k:Int):Option Int->Bool
 |some q=>decide (k<=q)
 |none=>false
def Kn(lo up:Int):Option Int->List Int->Bool
 |_,[]=>true
 |pr,k::r=>if k<lo\/up<k\/Tr k pr=true then false else Kn lo up (some k) r
def IJ(ks:List Int):Nat->Option Int
 |0=>none
 |i+1=>ks[i]?
def Qdt{ks:List Int}{i:Nat}{k:Int}(h:ks[i]?=some k):IJ ks (i+1)=some k:=h
def keyOf:List AV->Int
 |[.agg (.int _ n::_)]=>n
 |_=>0
def iD:Nat->FuncId->List AV->AV:=fun _ _ l=>I (keyOf l)
def rB{lo up:Int}{ks:List Int}{i:Nat}{k:Int}(h:ks[i]?=some k):Kn lo up (IJ ks i) (ks.drop i)=if k<lo\/up<k\/Tr k (IJ ks i)=true then false else Kn lo up (IJ ks (i+1)) (ks.drop (i+1)):=by
 obtain⟨hi,hk⟩:=zza.1 h;rw[zzaf hi,hk,Kn,Qdt h]
def Oj(s n:Nat)(R:Nat->Prop)(f:Nat->AV)(m:AM):Prop:=∃(i:Nat)(bx:List (List AV)),f s=I i/\i<=n/\R i/\m=⟨bx,[],fun _=>.gone,0⟩
def Ru(L:List It)(lo up:Int)(hl:L.length<=8796093022208):Pure Tryz.prog az 266 [.sl .ro (L.map Qm),I lo,I up,.fn 56 [] []] (.bool (Kn lo up none (L.map fun x=>x.id))):=by
 obtain⟨T,hT⟩:∃T,Kn lo up none (L.map fun x=>x.id)=T:=⟨_,rfl⟩;rw[hT];refine Qn adY iD (by simp) ?_;simp[VB];refine Qi ng (Oj 14 L.length fun i=>Kn lo up (IJ (L.map fun x=>x.id) i) ((L.map fun x=>x.id).drop i)=T) (fun f _=>L.length-(numOf (f 14)).toNat) ?_ ?_
 ·exact⟨0,_,by simp,by omega,by simpa[IJ]using hT,rfl⟩
 rintro f m ⟨i,bx,tU,hi,ha,rfl⟩;rcases zzaa i L.length with ai|bu
 ·obtain⟨x,hx⟩:=aS ai;have ah:Qh (L.map Qm) i=Qm x:=Qs (by simp[hx]);have aa:(i:Int)<(L.length:Int):=by omega
  have hw:=bJ i (by omega);have hk:=ajY x;have YZ:(L.map fun x=>x.id)[i]?=some x.id:=by simp[hx]
  rw[rB YZ]at ha;by_cases c1:x.id<lo
  ·rw[if_pos (.inl c1)]at ha;subst ha;simp[tU,ai,aa,ah,Qm,iD,keyOf,c1,ng,vD];simpa[Qm]using hk
  by_cases c2:up<x.id
  ·rw[if_pos (.inr (.inl c2))]at ha;subst ha;simp[tU,ai,aa,ah,Qm,iD,keyOf,c1,c2,ng,vD];simpa[Qm]using hk
  cases i with
  |zero=>
   rw[if_neg (by simp[c1,c2,IJ,Tr])]at ha;have fC:IntKind.i64.wrap 1=1:=by decide
   simp[tU,ai,aa,ah,Qm,iD,keyOf,c1,c2,ng,vD,hw,fC];refine⟨by simpa[Qm]using hk,aO,⟨1,_,by simp,by omega,ha,rfl⟩,by omega⟩
  |succ j=>
   have eF:j<L.length:=by omega
   have sM:(j:Int)<(L.length:Int):=by omega
   obtain⟨y,hy⟩:=aS eF;have sN:Qh (L.map Qm) j=Qm y:=Qs (by simp[hy]);have hky:=ajY y;have sO:IJ (L.map fun x=>x.id) (j+1)=some y.id:=Qdt (by simp[hy]);have IK:IntKind.i64.wrap (((j+1:Nat):Int)-1)=(j:Int):=by rw[Qk]<;>omega
   have Gf:IntKind.i64.wrap ((j:Int)+1-1)=(j:Int):=by rw[Qk]<;>omega
   have xz:IntKind.i64.wrap (j:Int)=(j:Int):=by rw[Qk]<;>omega
   have ek:(0:Int)<(j:Int)+1:=by omega
   have hj0:(0:Int)<=(j:Int):=by omega
   have Gg:(0:Int)<=(j:Int)+1:=by omega
   have Oh:¬(j:Int)<0:=by omega
   have Gh:(j:Int)+1<(L.length:Int):=by omega
   have ee:IntKind.i64.wrap ((j:Int)+1+1)=((j+1+1:Nat):Int):=by rw[Qk]<;>omega
   by_cases c3:x.id<=y.id
   ·rw[if_pos (.inr (.inr (by rw[sO];simp[Tr,c3])))]at ha;subst ha;simp[tU,ai,aa,Gh,ek,hj0,Gg,Oh,IK,Gf,xz,eF,sM,ah,sN,Qm,iD,keyOf,c1,c2,c3,ng,vD];exact⟨by simpa[Qm]using hk,by simpa[Qm]using hky⟩
   rw[if_neg (by rw[sO];simp[c1,c2,c3,Tr])]at ha;simp[tU,ai,aa,Gh,ek,hj0,Gg,Oh,IK,Gf,xz,eF,sM,ah,sN,Qm,iD,keyOf,c1,c2,c3,ng,vD,ee];refine⟨by simpa[Qm]using hk,by simpa[Qm]using hky,aO,⟨j+1+1,_,by simp,by omega,ha,rfl⟩,by omega⟩
 obtain rfl:i=L.length:=by omega
 rw[zzam (by simp)]at ha;have ha:true=T:=by rw[<- ha];simp[Kn]
 subst ha;simp[tU,ng,vD]
def Rv(L:List Bk)(lo up:Int)(hl:L.length<=8796093022208):Pure Tryz.prog az 267 [.sl .ro (L.map Xg),I lo,I up,.fn 268 [] []] (.bool (Kn lo up none (L.map fun x=>x.id))):=by
 obtain⟨T,hT⟩:∃T,Kn lo up none (L.map fun x=>x.id)=T:=⟨_,rfl⟩;rw[hT];refine Qn adZ iD (by simp) ?_;simp[VC];refine Qi nh (Oj 14 L.length fun i=>Kn lo up (IJ (L.map fun x=>x.id) i) ((L.map fun x=>x.id).drop i)=T) (fun f _=>L.length-(numOf (f 14)).toNat) ?_ ?_
 ·exact⟨0,_,by simp,by omega,by simpa[IJ]using hT,rfl⟩
 rintro f m ⟨i,bx,tU,hi,ha,rfl⟩;rcases zzaa i L.length with ai|bu
 ·obtain⟨x,hx⟩:=aS ai;have ah:Qh (L.map Xg) i=Xg x:=Qs (by simp[hx]);have aa:(i:Int)<(L.length:Int):=by omega
  have hw:=bJ i (by omega);have hk:=xD x;have YZ:(L.map fun x=>x.id)[i]?=some x.id:=by simp[hx]
  rw[rB YZ]at ha;by_cases c1:x.id<lo
  ·rw[if_pos (.inl c1)]at ha;subst ha;simp[tU,ai,aa,ah,Xg,iD,keyOf,c1,nh,vE];simpa[Xg]using hk
  by_cases c2:up<x.id
  ·rw[if_pos (.inr (.inl c2))]at ha;subst ha;simp[tU,ai,aa,ah,Xg,iD,keyOf,c1,c2,nh,vE];simpa[Xg]using hk
  cases i with
  |zero=>
   rw[if_neg (by simp[c1,c2,IJ,Tr])]at ha;have fC:IntKind.i64.wrap 1=1:=by decide
   simp[tU,ai,aa,ah,Xg,iD,keyOf,c1,c2,nh,vE,hw,fC];refine⟨by simpa[Xg]using hk,aO,⟨1,_,by simp,by omega,ha,rfl⟩,by omega⟩
  |succ j=>
   have eF:j<L.length:=by omega
   have sM:(j:Int)<(L.length:Int):=by omega
   obtain⟨y,hy⟩:=aS eF;have sN:Qh (L.map Xg) j=Xg y:=Qs (by simp[hy]);have hky:=xD y;have sO:IJ (L.map fun x=>x.id) (j+1)=some y.id:=Qdt (by simp[hy]);have IK:IntKind.i64.wrap (((j+1:Nat):Int)-1)=(j:Int):=by rw[Qk]<;>omega
   have Gf:IntKind.i64.wrap ((j:Int)+1-1)=(j:Int):=by rw[Qk]<;>omega
   have xz:IntKind.i64.wrap (j:Int)=(j:Int):=by rw[Qk]<;>omega
   have ek:(0:Int)<(j:Int)+1:=by omega
   have hj0:(0:Int)<=(j:Int):=by omega
   have Gg:(0:Int)<=(j:Int)+1:=by omega
   have Oh:¬(j:Int)<0:=by omega
   have Gh:(j:Int)+1<(L.length:Int):=by omega
   have ee:IntKind.i64.wrap ((j:Int)+1+1)=((j+1+1:Nat):Int):=by rw[Qk]<;>omega
   by_cases c3:x.id<=y.id
   ·rw[if_pos (.inr (.inr (by rw[sO];simp[Tr,c3])))]at ha;subst ha;simp[tU,ai,aa,Gh,ek,hj0,Gg,Oh,IK,Gf,xz,eF,sM,ah,sN,Xg,iD,keyOf,c1,c2,c3,nh,vE];exact⟨by simpa[Xg]using hk,by simpa[Xg]using hky⟩
   rw[if_neg (by rw[sO];simp[c1,c2,c3,Tr])]at ha;simp[tU,ai,aa,Gh,ek,hj0,Gg,Oh,IK,Gf,xz,eF,sM,ah,sN,Xg,iD,keyOf,c1,c2,c3,nh,vE,ee];refine⟨by simpa[Xg]using hk,by simpa[Xg]using hky,aO,⟨j+1+1,_,by simp,by omega,ha,rfl⟩,by omega⟩
 obtain rfl:i=L.length:=by omega
 rw[zzam (by simp)]at ha;have ha:true=T:=by rw[<- ha];simp[Kn]
 subst ha;simp[tU,nh,vE]
def Rw(L:List Sp)(lo up:Int)(hl:L.length<=8796093022208):Pure Tryz.prog az 313 [.sl .ro (L.map Qe),I lo,I up,.fn 314 [] []] (.bool (Kn lo up none (L.map fun x=>x.1))):=by
 obtain⟨T,hT⟩:∃T,Kn lo up none (L.map fun x=>x.1)=T:=⟨_,rfl⟩;rw[hT];refine Qn aeg iD (by simp) ?_;simp[VK];refine Qi nj (Oj 14 L.length fun i=>Kn lo up (IJ (L.map fun x=>x.1) i) ((L.map fun x=>x.1).drop i)=T) (fun f _=>L.length-(numOf (f 14)).toNat) ?_ ?_
 ·exact⟨0,_,by simp,by omega,by simpa[IJ]using hT,rfl⟩
 rintro f m ⟨i,bx,tU,hi,ha,rfl⟩;rcases zzaa i L.length with ai|bu
 ·obtain⟨x,hx⟩:=aS ai;have ah:Qh (L.map Qe) i=Qe x:=Qs (by simp[hx]);have aa:(i:Int)<(L.length:Int):=by omega
  have hw:=bJ i (by omega);have hk:=xE x;have YZ:(L.map fun x=>x.1)[i]?=some x.1:=by simp[hx]
  rw[rB YZ]at ha;by_cases c1:x.1<lo
  ·rw[if_pos (.inl c1)]at ha;subst ha;simp[tU,ai,aa,ah,Qe,iD,keyOf,c1,nj,vG];simpa[Qe]using hk
  by_cases c2:up<x.1
  ·rw[if_pos (.inr (.inl c2))]at ha;subst ha;simp[tU,ai,aa,ah,Qe,iD,keyOf,c1,c2,nj,vG];simpa[Qe]using hk
  cases i with
  |zero=>
   rw[if_neg (by simp[c1,c2,IJ,Tr])]at ha;have fC:IntKind.i64.wrap 1=1:=by decide
   simp[tU,ai,aa,ah,Qe,iD,keyOf,c1,c2,nj,vG,hw,fC];refine⟨by simpa[Qe]using hk,aO,⟨1,_,by simp,by omega,ha,rfl⟩,by omega⟩
  |succ j=>
   have eF:j<L.length:=by omega
   have sM:(j:Int)<(L.length:Int):=by omega
   obtain⟨y,hy⟩:=aS eF;have sN:Qh (L.map Qe) j=Qe y:=Qs (by simp[hy]);have hky:=xE y;have sO:IJ (L.map fun x=>x.1) (j+1)=some y.1:=Qdt (by simp[hy]);have IK:IntKind.i64.wrap (((j+1:Nat):Int)-1)=(j:Int):=by rw[Qk]<;>omega
   have Gf:IntKind.i64.wrap ((j:Int)+1-1)=(j:Int):=by rw[Qk]<;>omega
   have xz:IntKind.i64.wrap (j:Int)=(j:Int):=by rw[Qk]<;>omega
   have ek:(0:Int)<(j:Int)+1:=by omega
   have hj0:(0:Int)<=(j:Int):=by omega
   have Gg:(0:Int)<=(j:Int)+1:=by omega
   have Oh:¬(j:Int)<0:=by omega
   have Gh:(j:Int)+1<(L.length:Int):=by omega
   have ee:IntKind.i64.wrap ((j:Int)+1+1)=((j+1+1:Nat):Int):=by rw[Qk]<;>omega
   by_cases c3:x.1<=y.1
   ·rw[if_pos (.inr (.inr (by rw[sO];simp[Tr,c3])))]at ha;subst ha;simp[tU,ai,aa,Gh,ek,hj0,Gg,Oh,IK,Gf,xz,eF,sM,ah,sN,Qe,iD,keyOf,c1,c2,c3,nj,vG];exact⟨by simpa[Qe]using hk,by simpa[Qe]using hky⟩
   rw[if_neg (by rw[sO];simp[c1,c2,c3,Tr])]at ha;simp[tU,ai,aa,Gh,ek,hj0,Gg,Oh,IK,Gf,xz,eF,sM,ah,sN,Qe,iD,keyOf,c1,c2,c3,nj,vG,ee];refine⟨by simpa[Qe]using hk,by simpa[Qe]using hky,aO,⟨j+1+1,_,by simp,by omega,ha,rfl⟩,by omega⟩
 obtain rfl:i=L.length:=by omega
 rw[zzam (by simp)]at ha;have ha:true=T:=by rw[<- ha];simp[Kn]
 subst ha;simp[tU,nj,vG]
def Jl(p:Pl):Bool:=wi p.ch 0 39&&(Vf p.nu p.de&&(Yd p.of p.sh&&(wi p.ep 0 9000000000&&(wi p.rg 1 8&&wi p.ln 1 100000000))))
def xF(p:Pl):Nat->FuncId->List AV->AV:=fun _ f l=>
 if f=183 then .bool (Vf p.nu p.de)else if f=184 then .bool (Yd p.of p.sh)else(match l with|[.int _ n,.int _ lo,.int _ up]=>.bool (wi n lo up)|_=>.junk)
def afh(p:Pl)(gK:p.sh.length<=1000000000):Pure Tryz.prog az 192 [.ep (Qb p++[.junk,.junk]) 0] (.bool (Jl p)):=by
 have h1:=Ua p.ch 0 39;have h2:=Wo p.nu p.de;have h3:=jy p.of p.sh gK;have h4:=Ua p.ep 0 9000000000;have h5:=Ua p.rg 1 8;have h6:=Ua p.ln 1 100000000;refine Qn ac8 (xF p) (by simp) ?_;cases e1:wi p.ch 0 39 with
 |false=>rw[e1]at h1;simp[vo,vp,Qb,xF,Jl,e1];exact h1
 |true=>
  rw[e1]at h1;cases e2:Vf p.nu p.de with
  |false=>rw[e2]at h2;simp[vo,vp,Qb,xF,Jl,e1,e2];exact⟨h1,h2⟩
  |true=>
   rw[e2]at h2;cases e3:Yd p.of p.sh with
   |false=>rw[e3]at h3;simp[vo,vp,Qb,xF,Jl,e1,e2,e3];exact⟨h1,h2,h3⟩
   |true=>
    rw[e3]at h3;cases e4:wi p.ep 0 9000000000 with
    |false=>rw[e4]at h4;simp[vo,vp,Qb,xF,Jl,e1,e2,e3,e4];exact⟨h1,h2,h3,h4⟩
    |true=>
     rw[e4]at h4;cases e5:wi p.rg 1 8 with
     |false=>rw[e5]at h5;simp[vo,vp,Qb,xF,Jl,e1,e2,e3,e4,e5];exact⟨h1,h2,h3,h4,h5⟩
     |true=>rw[e5]at h5;simp[vo,vp,Qb,xF,Jl,e1,e2,e3,e4,e5];exact⟨h1,h2,h3,h4,h5,h6⟩
def afi:List Cl->Bool
 |[]=>true
 |c::r=>Xk c&&afi r
def Qdj(p:Pl):Bool:=decide (p.cls.length<=400)&&afi p.cls
def Be:Nat->FuncId->List AV->AV:=fun _ _ l=>match l with
 |[.agg [.int _ a,.int _ b,.int _ c,.int _ d,.int _ e,.int _ f,.int _ g,.int _ h]]=>.bool (Xk ⟨a,b,c,d,e,f,g,h⟩)
 |_=>.junk
def Rx(p:Pl)(hc:p.cls.length<=1000000000):Pure Tryz.prog az 196 [.ep (Qb p++[.junk,.junk]) 0] (.bool (Qdj p)):=by
 refine Qn ade Be (by simp) ?_;by_cases h0:p.cls.length<=400
 ·have zl:¬(400:Int)<(p.cls.length:Int):=by omega
  obtain⟨T,hT⟩:∃T,Qdj p=T:=⟨_,rfl⟩;rw[hT];simp[UQ,Qb,h0,zl];refine Qi BZ (Oj 18 p.cls.length fun i=>afi (p.cls.drop i)=T) (fun f _=>p.cls.length-(numOf (f 18)).toNat) ?_ ?_
  ·exact⟨0,_,by simp,by omega,by rw[<- hT];simp[Qdj,h0],rfl⟩
  rintro f m ⟨i,bx,h18,hi,ha,rfl⟩;rcases zzaa i p.cls.length with ai|bu
  ·obtain⟨x,hx⟩:=aS ai;have ah:Qh (p.cls.map Qg) i=Qg x:=Qs (by simp[hx]);have aa:(i:Int)<(p.cls.length:Int):=by omega
   have hw:=bJ i (by omega);have hk:=Kr x;rw[Zb hx,afi]at ha;cases hv:Xk x with
   |false=>
    rw[hv]at ha hk;simp at ha;simp[h18,ai,aa,ah,Qg,Be,hv,BZ,ED,ha];simpa[Qg]using hk
   |true=>
    rw[hv]at ha hk;simp at ha;simp[h18,ai,aa,ah,Qg,Be,hv,BZ,ED,hw];refine⟨by simpa[Qg]using hk,aO,⟨i+1,_,by simp,by omega,ha,rfl⟩,by omega⟩
  obtain rfl:i=p.cls.length:=by omega
  rw[zzbo]at ha;have ha:true=T:=ha;subst ha;simp[h18,BZ,ED]
 have zl:(400:Int)<(p.cls.length:Int):=by omega
 simp[UQ,ED,Qb,Qdj,h0,zl]
open Go Go.Abs
def mI(l:List It):List (List Int×AV):=l.map fun x=>([x.id],.agg (Qm x))
def mK(l:List Bk):List (List Int×AV):=l.map fun x=>([x.id],.agg (Xg x))
def Gi(id:Int):List Bk->Option Bk
 |[]=>none
 |x::r=>if x.id=id then some x else Gi id r
def xG{k:List Int}:∀{kvs:List (List Int×AV)}{i:Nat},(∀p∈kvs,p.1≠k)->Xj k kvs i=none
 |[],_,_=>rfl
 |(k',a)::r,i,h=>by
  rw[Xj,if_neg (fun e=>h (k',a) (by simp) e.symm)];exact xG fun p hp=>h p (by simp[hp])
def amR(id:Int):∀(l:List It)(i:Nat),(Xh id l=none->Xj [id] (mI l) i=none)/\∀x,Xh id l=some x->∃n,Xj [id] (mI l) i=some (n,.agg (Qm x))
 |[],i=>⟨fun _=>rfl,fun x h=>by cases h⟩
 |y::r,i=>by
  have ih:=amR id r (i+1);simp only[mI,zzaz,Xj,Xh]at ih |-
  by_cases h:y.id=id
  ·rw[if_pos h,if_pos (by rw[h])];exact⟨fun h=>(by cases h),fun x h=>(by cases h;exact⟨i,rfl⟩)⟩
  rw[if_neg h,if_neg (by intro e;cases e;exact h rfl)];exact ih
def asu(id:Int):∀(l:List Bk)(i:Nat),(Gi id l=none->Xj [id] (mK l) i=none)/\∀x,Gi id l=some x->∃n,Xj [id] (mK l) i=some (n,.agg (Xg x))
 |[],i=>⟨fun _=>rfl,fun x h=>by cases h⟩
 |y::r,i=>by
  have ih:=asu id r (i+1);simp only[mK,zzaz,Xj,Gi]at ih |-
  by_cases h:y.id=id
  ·rw[if_pos h,if_pos (by rw[h])];exact⟨fun h=>(by cases h),fun x h=>(by cases h;exact⟨i,rfl⟩)⟩
  rw[if_neg h,if_neg (by intro e;cases e;exact h rfl)];exact ih
def lq{lo up:Int}:∀{ks:List Int}{pr:Option Int},Kn lo up pr ks=true->ks.Pairwise (·<·)/\∀k∈ks,lo<=k/\k<=up/\∀q,pr=some q->q<k
 |[],pr,_=>⟨List.Pairwise.nil,fun k hk=>by cases hk⟩
 |k::r,pr,h=>by
  rw[Kn]at h;split at h
  ·cases h
  rename_i hn;simp only[not_or]at hn;obtain⟨h1,h2⟩:=lq h
  have hk:∀q,pr=some q->q<k:=fun q hq=>by
   have:=hn.2.2;subst hq;simp[Tr]at this;omega
  refine⟨zzbx.2 ⟨fun a ha=>(h2 a ha).2.2 k rfl,h1⟩,fun a ha=>?_⟩;rcases zzat.1 ha with rfl|ha
  ·exact⟨by omega,by omega,hk⟩
  obtain⟨g1,g2,g3⟩:=h2 a ha;refine⟨g1,g2,fun q hq=>?_⟩;have:=hk q hq;have:=g3 k rfl;omega
def xH{α:Type}{key:α->Int}{row:α->AV}{l:List α}{i:Nat}{x:α}(h:(l.map key).Pairwise (·<·))(hx:l[i]?=some x):Xj [key x] ((l.take i).map fun x=>([key x],row x)) 0=none:=by
 refine xG fun p hp=>?_;obtain⟨y,hy,rfl⟩:=zzax.1 hp;obtain⟨j,hj,ql⟩:=zzg hy;rw[zzaq]at hj;rw[List.getElem_take]at ql;obtain⟨hi,hx⟩:=zza.1 hx
 have ai:key l[j]<key l[i]:=by
  have:=zzdk.1 h j i (by simp;omega) (by simpa using hi) (by omega);simpa using this
 intro e;rw[<- ql,<- hx]at e;simp only[List.cons.injEq,and_true]at e;omega
def Ts(x:It):Bool:=wi x.ki 1 5&&(wi x.fr 1 100000000&&(wi x.sp 0 200&&wi x.ra 0 3))
def xI:List It->Bool
 |[]=>true
 |x::r=>Ts x&&xI r
def wN(p:Pl):Bool:=match Xh p.fi p.aL with
 |some x=>decide (x.ki=5)
 |none=>false
def Tt(p:Pl):Bool:=decide (p.aL.length<=4000)&&(Kn 1 1000000 none (p.aL.map fun x=>x.id)&&(xI p.aL&&wN p))
def bW(p:Pl)(kI kB:List (List Int×AV))(bx:List (List AV)):AM:=⟨Qb p::[.aJ 0 kI]::[.aJ 0 kB]::(Qb p++[.mp 1,.mp 2])::bx,[],fun _=>.gone,0⟩
def afj(x:It):Idle (.agg (Qm x)):=Idle.agg fun c hc=>by
 simp only[Qm,zzat,zzee,or_false]at hc;rcases hc with rfl|rfl|rfl|rfl|rfl<;>exact Idle.int _ _
def afk(x:Bk):Idle (.agg (Xg x)):=Idle.agg fun c hc=>by
 simp only[Xg,zzat,zzee,or_false]at hc;rcases hc with rfl|rfl|rfl|rfl|rfl|rfl|rfl<;>exact Idle.int _ _
def BkK(p:Pl)(K:AV->AM->Prop)(r:AV)(m:AM):Prop:=∃kI kB bx,m=bW p kI kB bx/\(∀e∈kI,Idle e.2)/\(∀e∈kB,Idle e.2)/\Idle r/\K r (bW p kI kB [])
def Bf{p:Pl}{K:AV->AM->Prop}{r:AV}{m:AM}(kI kB:List (List Int×AV))(bx:List (List AV))(hm:m=bW p kI kB bx)(h1:∀e∈kI,Idle e.2)(h2:∀e∈kB,Idle e.2)(h3:Idle r)(h4:K r (bW p kI kB [])):BkK p K r m:=⟨kI,kB,bx,hm,h1,h2,h3,h4⟩
def sP{f:FuncId}{xs:List AV}{p:Pl}{Y:YT}{k0 b0:List (List Int×AV)}{K:AV->AM->Prop}
  (h:an Tryz.prog az Y f xs (bW p k0 b0 []) (BkK p K)):an Tryz.prog az Y f xs (bW p k0 b0 []) K:=by
 refine an.forget (an.mono h ?_);rintro r m' ⟨kI,kB,bx,rfl,h1,h2,h3,h4⟩;refine⟨bW p kI kB [],bx,rfl,rfl,rfl,fun id cells hc=>?_,h3,h4⟩
 match id,hc with
 |0,hc=>exact .inl hc
 |1,hc=>cases hc;exact .inr (.inr ⟨0,kI,rfl,h1⟩)
 |2,hc=>cases hc;exact .inr (.inr ⟨0,kB,rfl,h2⟩)
 |3,hc=>exact .inl hc
 |n+4,hc=>cases hc
def pN(p:Pl):Nat->FuncId->List AV->AV:=fun _ f l=>
 if f=266 then .bool (Kn 1 1000000 none (p.aL.map fun x=>x.id))else(match l with|[.int _ n,.int _ lo,.int _ up]=>.bool (wi n lo up)|_=>.junk)
def Vr(l:List It):∀e∈mI l,Idle e.2:=fun e he=>by
 obtain⟨x,_,rfl⟩:=zzax.1 he;exact afj x
def Qaz(l:List Bk):∀e∈mK l,Idle e.2:=fun e he=>by
 obtain⟨x,_,rfl⟩:=zzax.1 he;exact afk x
def afl{l:List It}{i:Nat}{x:It}(h:l[i]?=some x):mI (l.take (i+1))=mI (l.take i)++[([x.id],.agg (Qm x))]:=by
 simp[mI,zzas,h]
def afm{l:List Bk}{i:Nat}{x:Bk}(h:l[i]?=some x):mK (l.take (i+1))=mK (l.take i)++[([x.id],.agg (Xg x))]:=by
 simp[mK,zzas,h]
def Ux{P:List Int×AV->Prop}:∀e∈([]:List (List Int×AV)),P e:=fun e h=>by cases h
def ajZ(s n:Nat)(p:Pl)(kI kB:Nat->List (List Int×AV))(R:Nat->Prop)(f:Nat->AV)(m:AM):Prop:=∃(i:Nat)(bx:List (List AV)),f s=I i/\i<=n/\R i/\m=bW p (kI i) (kB i) bx
def afn(p:Pl)(hl:p.aL.length<=1000000000)(Y:YT)(K:AV->AM->Prop)(hK1:Tt p=true->K (.bool true) (bW p (mI p.aL) [] []))(rC:Tt p=false->∀kI,K (.bool false) (bW p kI [] [])):
  an Tryz.prog az Y 193 [.ptr 3 0] (bW p [] [] []) K:=by
 have Ol:=Ru p.aL 1 1000000 (by omega);refine sP ?_;refine Xe ac9 (pN p) (by simp) ?_;by_cases h0:p.aL.length<=4000
 ·have zl:¬(4000:Int)<(p.aL.length:Int):=by omega
  cases ha:Kn 1 1000000 none (p.aL.map fun x=>x.id)with
  |false=>
   rw[ha]at Ol;simp[EB,oE,bW,Qb,h0,zl,pN,ha];exact⟨Ol,Bf _ _ _ rfl Ux Ux (Idle.bool _) (rC (by simp[Tt,ha]) [])⟩
  |true=>
   rw[ha]at Ol;have hp:=(lq ha).1;simp[EB,bW,Qb,h0,zl,pN,ha];refine⟨Ol,?_⟩;refine Qi iS (ajZ 27 p.aL.length p (fun i=>mI (p.aL.take i)) (fun _=>[]) fun i=>xI (p.aL.drop i)=xI p.aL) (fun f _=>p.aL.length-(numOf (f 27)).toNat) ?_ ?_
   ·exact⟨0,[],by simp,by omega,by simp,by simp[bW,Qb,mI]⟩
   rintro f m ⟨i,bx,h27,hi,eu,rfl⟩;rcases zzaa i p.aL.length with ai|bu
   ·obtain⟨x,hx⟩:=aS ai;have ah:Qh (p.aL.map Qm) i=Qm x:=Qs (by simp[hx]);have aa:(i:Int)<(p.aL.length:Int):=by omega
    have hw:=bJ i (by omega);have hkf:Xj [x.id] (mI (p.aL.take i)) 0=none:=xH (key:=fun x=>x.id) (row:=fun x=>.agg (Qm x)) hp hx;have bB:=afl hx;rw[Zb hx,xI]at eu;have h1:=Ua x.ki 1 5;have h2:=Ua x.fr 1 100000000;have h3:=Ua x.sp 0 200;have h4:=Ua x.ra 0 3;have bad:Ts x=false->Tt p=false:=fun h=>by rw[h]at eu;simp[Tt,<- eu]
    cases e1:wi x.ki 1 5 with
    |false=>
     rw[e1]at h1;simp[h27,ai,aa,ah,Qm,bW,Qb,pN,e1,iS,oE];exact⟨h1,Bf _ _ _ rfl (Vr _) Ux (Idle.bool _) (rC (bad (by simp[Ts,e1])) _)⟩
    |true=>
     rw[e1]at h1;cases e2:wi x.fr 1 100000000 with
     |false=>
      rw[e2]at h2;simp[h27,ai,aa,ah,Qm,bW,Qb,pN,e1,e2,iS,oE];exact⟨h1,h2,Bf _ _ _ rfl (Vr _) Ux (Idle.bool _) (rC (bad (by simp[Ts,e1,e2])) _)⟩
     |true=>
      rw[e2]at h2;cases e3:wi x.sp 0 200 with
      |false=>
       rw[e3]at h3;simp[h27,ai,aa,ah,Qm,bW,Qb,pN,e1,e2,e3,iS,oE];exact⟨h1,h2,h3,Bf _ _ _ rfl (Vr _) Ux (Idle.bool _) (rC (bad (by simp[Ts,e1,e2,e3])) _)⟩
      |true=>
       rw[e3]at h3;cases e4:wi x.ra 0 3 with
       |false=>
        rw[e4]at h4;simp[h27,ai,aa,ah,Qm,bW,Qb,pN,e1,e2,e3,e4,iS,oE];exact⟨h1,h2,h3,h4,Bf _ _ _ rfl (Vr _) Ux (Idle.bool _) (rC (bad (by simp[Ts,e1,e2,e3,e4])) _)⟩
       |true=>
        rw[e4]at h4;have bQ:Ts x=true:=by simp[Ts,e1,e2,e3,e4]
        rw[bQ,zzdo]at eu;simp[h27,ai,aa,ah,Qm,bW,Qb,pN,e1,e2,e3,e4,iS,hw,hkf];refine⟨h1,h2,h3,h4,aO,⟨i+1,bx++[Qm x],by simp,by omega,eu,?_⟩,by omega⟩
        ·simp only[bB];simp[Qm,bW,Qb]
   have bI:¬(i:Int)<(p.aL.length:Int):=by omega
   rw[zzam bu]at eu;have mD:p.aL.take i=p.aL:=zzap bu;simp only[mD];have eu:xI p.aL=true:=by rw[<- eu];rfl
   obtain⟨g1,g2⟩:=amR p.fi p.aL 0;cases hf:Xh p.fi p.aL with
   |none=>
    have g:=g1 hf;simp[h27,bI,iS,oE,bW,Qb,g];exact Bf _ _ _ rfl (Vr _) Ux (Idle.bool _) (rC (by simp[Tt,wN,hf]) _)
   |some x=>
    obtain⟨n,g⟩:=g2 x hf;simp[h27,bI,iS,oE,bW,Qb,g,Qm];by_cases h5:x.ki=5
    ·simp only[h5];exact Bf _ _ _ rfl (Vr _) Ux (Idle.bool _) (hK1 (by simp[Tt,wN,hf,h0,ha,eu,h5]))
    have h5':(x.ki==5)=false:=by simpa using h5
    rw[h5'];exact Bf _ _ _ rfl (Vr _) Ux (Idle.bool _) (rC (by simp[Tt,wN,hf,h5]) _)
 have zl:(4000:Int)<(p.aL.length:Int):=by omega
 simp[EB,oE,bW,Qb,h0,zl,pN];exact Bf _ _ _ rfl Ux Ux (Idle.bool _) (rC (by simp[Tt,h0]) [])
open Go Go.Abs
def Dh(x:Bk):Bool:=decide (0<=x.fr)&&(decide (x.fr<x.to)&&(decide (x.to<=x.un)&&decide (x.un<=100000000)))
def kindOf(p:Pl)(id:Int):Int:=match Xh id p.aL with
 |some y=>y.ki
 |none=>0
def Y1(p:Pl)(x:Bk):Bool:=decide (kindOf p x.it=2)&&(wi x.re 0 (p.rg-1)&&(Dh x&&wi x.pr 0 1000000000))
def Ry(p:Pl):List Bk->Bool
 |[]=>true
 |x::r=>Y1 p x&&Ry p r
def jM(p:Pl):Bool:=decide (p.bks.length<=2000)&&(Kn 1 1000000 none (p.bks.map fun x=>x.id)&&Ry p p.bks)
def Di(p:Pl)(id:Int):∃r,Xj [id] (mI p.aL) 0=r/\((∃n x,Xh id p.aL=some x/\r=some (n,.agg (Qm x)))\/(Xh id p.aL=none/\r=none)):=by
 obtain⟨g1,g2⟩:=amR id p.aL 0;cases hf:Xh id p.aL with
 |none=>exact⟨_,rfl,.inr ⟨rfl,g1 hf⟩⟩
 |some x=>
  obtain⟨n,g⟩:=g2 x hf;exact⟨_,rfl,.inl ⟨n,x,rfl,g⟩⟩
def Rz(p:Pl):Nat->FuncId->List AV->AV:=fun _ f l=>
 if f=267 then .bool (Kn 1 1000000 none (p.bks.map fun x=>x.id))else(match l with|[.int _ n,.int _ lo,.int _ up]=>.bool (wi n lo up)|_=>.junk)
def afo(p:Pl)(hl:p.bks.length<=8796093022208)(Ld:1<=p.rg/\p.rg<=8)(Y:YT)(K:AV->AM->Prop)(hK1:jM p=true->K (.bool true) (bW p (mI p.aL) (mK p.bks) []))(rC:jM p=false->∀kB,K (.bool false) (bW p (mI p.aL) kB [])):
  an Tryz.prog az Y 194 [.ptr 3 0] (bW p (mI p.aL) [] []) K:=by
 have Ol:=Rv p.bks 1 1000000 hl;refine sP ?_;refine Xe ada (Rz p) (by simp) ?_;by_cases h0:p.bks.length<=2000
 ·have zl:¬(2000:Int)<(p.bks.length:Int):=by omega
  cases ha:Kn 1 1000000 none (p.bks.map fun x=>x.id)with
  |false=>
   rw[ha]at Ol;simp[EC,fL,bW,Qb,h0,zl,Rz,ha];exact⟨Ol,Bf _ _ _ rfl (Vr _) Ux (Idle.bool _) (rC (by simp[jM,ha]) [])⟩
  |true=>
   rw[ha]at Ol;have hp:=(lq ha).1;simp[EC,bW,Qb,h0,zl,Rz,ha];refine⟨Ol,?_⟩;refine Qi eC (ajZ 28 p.bks.length p (fun _=>mI p.aL) (fun i=>mK (p.bks.take i)) fun i=>Ry p (p.bks.drop i)=Ry p p.bks) (fun f _=>p.bks.length-(numOf (f 28)).toNat) ?_ ?_
   ·exact⟨0,[],by simp,by omega,by simp,by simp[bW,Qb,mK]⟩
   rintro f m ⟨i,bx,h28,hi,eu,rfl⟩;rcases zzaa i p.bks.length with ai|bu
   ·obtain⟨x,hx⟩:=aS ai;have ah:Qh (p.bks.map Xg) i=Xg x:=Qs (by simp[hx]);have aa:(i:Int)<(p.bks.length:Int):=by omega
    have hw:=bJ i (by omega);have pG:IntKind.i64.wrap (p.rg-1)=p.rg-1:=by rw[Qk]<;>omega
    have hkf:Xj [x.id] (mK (p.bks.take i)) 0=none:=xH (key:=fun x=>x.id) (row:=fun x=>.agg (Xg x)) hp hx;have bB:=afm hx;rw[Zb hx,Ry]at eu;have h1:=Ua x.re 0 (p.rg-1);have h2:=Ua x.pr 0 1000000000;have bad:Y1 p x=false->jM p=false:=fun h=>by rw[h]at eu;simp[jM,<- eu]
    obtain⟨r,hr,RA⟩:=Di p x.it;by_cases fR:kindOf p x.it=2
    ·obtain⟨n,y,hf,rfl⟩|⟨hf,rfl⟩:=RA
     ·have hy:y.ki=2:=by simpa[kindOf,hf]using fR
      cases e1:wi x.re 0 (p.rg-1)with
      |false=>
       rw[e1]at h1;simp[h28,ai,aa,ah,Xg,bW,Qb,Rz,hr,Qm,hy,pG,e1,eC,fL];exact⟨h1,Bf _ _ _ rfl (Vr _) (Qaz _) (Idle.bool _) (rC (bad (by simp[Y1,e1])) _)⟩
      |true=>
       rw[e1]at h1;cases e2:Dh x with
       |false=>
        have e2':¬(0<=x.fr)\/(0<=x.fr/\¬x.fr<x.to)\/(0<=x.fr/\x.fr<x.to/\¬x.to<=x.un)\/(0<=x.fr/\x.fr<x.to/\x.to<=x.un/\¬x.un<=100000000):=by
         simp[Dh]at e2;omega
        obtain c1|⟨c1,c2⟩|⟨c1,c2,c3⟩|⟨c1,c2,c3,c4⟩:=e2'
        ·simp[h28,ai,aa,ah,Xg,bW,Qb,Rz,hr,Qm,hy,pG,e1,c1,eC,fL];exact⟨h1,Bf _ _ _ rfl (Vr _) (Qaz _) (Idle.bool _) (rC (bad (by simp[Y1,e1,e2])) _)⟩
        ·simp[h28,ai,aa,ah,Xg,bW,Qb,Rz,hr,Qm,hy,pG,e1,c1,c2,eC,fL];exact⟨h1,Bf _ _ _ rfl (Vr _) (Qaz _) (Idle.bool _) (rC (bad (by simp[Y1,e1,e2])) _)⟩
        ·simp[h28,ai,aa,ah,Xg,bW,Qb,Rz,hr,Qm,hy,pG,e1,c1,c2,c3,eC,fL];exact⟨h1,Bf _ _ _ rfl (Vr _) (Qaz _) (Idle.bool _) (rC (bad (by simp[Y1,e1,e2])) _)⟩
        simp[h28,ai,aa,ah,Xg,bW,Qb,Rz,hr,Qm,hy,pG,e1,c1,c2,c3,c4,eC,fL];exact⟨h1,Bf _ _ _ rfl (Vr _) (Qaz _) (Idle.bool _) (rC (bad (by simp[Y1,e1,e2])) _)⟩
       |true=>
        have e2':0<=x.fr/\x.fr<x.to/\x.to<=x.un/\x.un<=100000000:=by
         simp[Dh]at e2;omega
        obtain⟨c1,c2,c3,c4⟩:=e2';cases e3:wi x.pr 0 1000000000 with
        |false=>
         rw[e3]at h2;simp[h28,ai,aa,ah,Xg,bW,Qb,Rz,hr,Qm,hy,pG,e1,c1,c2,c3,c4,e3,eC,fL];exact⟨h1,h2,Bf _ _ _ rfl (Vr _) (Qaz _) (Idle.bool _) (rC (bad (by simp[Y1,e1,e2,e3])) _)⟩
        |true=>
         rw[e3]at h2;have bQ:Y1 p x=true:=by simp[Y1,fR,e1,e2,e3]
         rw[bQ,zzdo]at eu;simp[h28,ai,aa,ah,Xg,bW,Qb,Rz,hr,Qm,hy,pG,e1,c1,c2,c3,c4,e3,eC,fL,hw,hkf];refine⟨h1,h2,aO,⟨i+1,bx++[Xg x],by simp,by omega,eu,?_⟩,by omega⟩
         ·simp only[bB];simp[Xg,bW,Qb]
     simp[kindOf,hf]at fR
    have hb:=bad (by simp[Y1,fR]);obtain⟨n,y,hf,rfl⟩|⟨hf,rfl⟩:=RA
    ·have hy:¬y.ki=2:=by simpa[kindOf,hf]using fR
     simp[h28,ai,aa,ah,Xg,bW,Qb,Rz,hr,Qm,hy,pG,eC,fL];exact Bf _ _ _ rfl (Vr _) (Qaz _) (Idle.bool _) (rC hb _)
    simp[h28,ai,aa,ah,Xg,bW,Qb,Rz,hr,Qm,pG,eC,fL];exact Bf _ _ _ rfl (Vr _) (Qaz _) (Idle.bool _) (rC hb _)
   have bI:¬(i:Int)<(p.bks.length:Int):=by omega
   rw[zzam bu]at eu;have mD:p.bks.take i=p.bks:=zzap bu;simp only[mD];have eu:Ry p p.bks=true:=by rw[<- eu];rfl
   simp[h28,bI,eC,fL,bW,Qb];exact Bf _ _ _ rfl (Vr _) (Qaz _) (Idle.bool _) (hK1 (by simp[jM,h0,ha,eu]))
 have zl:(2000:Int)<(p.bks.length:Int):=by omega
 simp[EC,fL,bW,Qb,h0,zl,Rz];exact Bf _ _ _ rfl (Vr _) Ux (Idle.bool _) (rC (by simp[jM,h0]) [])
open Go Go.Abs
def RdK(m:AM)(K:AV->AM->Prop)(r:AV)(m':AM):Prop:=∃ex,m'={m with boxes:=m.boxes++ex}/\Idle r/\K r m
def pO{m:AM}{K:AV->AM->Prop}{r:AV}{m':AM}(ex:List (List AV))(hm:m'={m with boxes:=m.boxes++ex})(hi:Idle r)(hK:K r m):RdK m K r m':=⟨ex,hm,hi,hK⟩
def Ku{f:FuncId}{xs:List AV}{m:AM}{Y:YT}{K:AV->AM->Prop}(h:an Tryz.prog az Y f xs m (RdK m K)):an Tryz.prog az Y f xs m K:=by
 refine an.mono (an.read (K:=fun r=>K r m) (an.mono h fun r m' h=>h)) ?_;rintro r m' ⟨rfl,h⟩;exact h
def pP:∀{l:List It},xI l=true->∀x∈l,Ts x=true
 |y::r,h,x,hx=>by
  rw[xI,zzak]at h;rcases zzat.1 hx with rfl|hx
  ·exact h.1
  exact pP h.2 x hx
def Y2{x:It}(h:Ts x=true):(1<=x.ki/\x.ki<=5)/\(1<=x.fr/\x.fr<=100000000)/\(0<=x.sp/\x.sp<=200)/\(0<=x.ra/\x.ra<=3):=by
 simp only[Ts,wi,zzak,decide_eq_true_eq]at h;exact h
def jN(p:Pl)(e:En):Bool:=match Xh e.it p.aL with
 |none=>false
 |some y=>if y.ki=5 then false else if wi e.fr 1 y.fr=false then false else if y.ki≠4/\e.fr≠y.fr then false else decide (0<=e.ea)&&(decide (e.ea<=e.la)&&decide (e.la<=p.ln-e.fr))
def jO:Nat->FuncId->List AV->AV:=fun _ f l=>match l with|[.int _ n,.int _ lo,.int _ up]=>.bool (wi n lo up)|_=>.junk
def amS(p:Pl)(e:En)(kB:List (List Int×AV))(bx:List (List AV))(Y3:xI p.aL=true)(dg:1<=p.ln/\p.ln<=100000000)(Y:YT)(K:AV->AM->Prop)(hK:∀b,jN p e=b->K (.bool b) (bW p (mI p.aL) kB bx)):
  an Tryz.prog az Y 269 [.ptr 3 0,.agg (Qd e)] (bW p (mI p.aL) kB bx) K:=by
 refine Ku (Xe ad1 jO (by simp) ?_);obtain⟨r,hr,RA⟩:=Di p e.it;simp[aiL,aiM,bW,Qb,Qd];refine Xu ?_;obtain⟨n,y,hf,rfl⟩|⟨hf,rfl⟩:=RA
 ·obtain⟨g1,g2,g3,g4⟩:=Y2 (pP Y3 y (pQ hf).1);have h1:=Ua e.fr 1 y.fr;by_cases c1:y.ki=5
  ·simp[hr,Qm,c1];exact pO _ rfl (Idle.bool _) (hK _ (by simp[jN,hf,c1]))
  cases c2:wi e.fr 1 y.fr with
  |false=>
   rw[c2]at h1;simp[hr,Qm,c1,c2,jO];exact⟨h1,pO _ rfl (Idle.bool _) (hK _ (by simp[jN,hf,c1,c2]))⟩
  |true=>
   rw[c2]at h1;have c2':1<=e.fr/\e.fr<=y.fr:=by simpa[wi]using c2
   have hw:IntKind.i64.wrap (p.ln-e.fr)=p.ln-e.fr:=by rw[Qk]<;>omega
   by_cases c3:y.ki≠4/\e.fr≠y.fr
   ·simp[hr,Qm,c1,c2,jO,c3.1,c3.2];exact⟨h1,pO _ rfl (Idle.bool _) (hK _ (by simp[jN,hf,c1,c2,c3.1,c3.2]))⟩
   have fin:∀b,(decide (0<=e.ea)&&(decide (e.ea<=e.la)&&decide (e.la<=p.ln-e.fr)))=b->jN p e=b:=fun b hb=>by
    rw[jN,hf];simp only;rw[if_neg c1,if_neg (by simp[c2]),if_neg c3];exact hb
   have c3':y.ki=4\/(¬y.ki=4/\e.fr=y.fr):=by
    by_cases h:y.ki=4
    ·exact .inl h
    exact .inr ⟨h,by by_cases h':e.fr=y.fr;exact h';exact absurd ⟨h,h'⟩ c3⟩
   by_cases d1:0<=e.ea
   ·by_cases d2:e.ea<=e.la
    ·by_cases d3:e.la<=p.ln-e.fr
     ·obtain c|⟨c,c'⟩:=c3'
      ·simp[hr,Qm,c1,c2,jO,c,hw,d1,d2,d3];exact⟨h1,pO _ rfl (Idle.bool _) (hK _ (fin _ (by simp[d1,d2,d3])))⟩
      rw[<- c']at c2 h1;simp[hr,Qm,c1,c2,jO,c,<- c',hw,d1,d2,d3];exact⟨h1,pO _ rfl (Idle.bool _) (hK _ (fin _ (by simp[d1,d2,d3])))⟩
     obtain c|⟨c,c'⟩:=c3'
     ·simp[hr,Qm,c1,c2,jO,c,hw,d1,d2,d3];exact⟨h1,pO _ rfl (Idle.bool _) (hK _ (fin _ (by simp[d1,d2,d3])))⟩
     rw[<- c']at c2 h1;simp[hr,Qm,c1,c2,jO,c,<- c',hw,d1,d2,d3];exact⟨h1,pO _ rfl (Idle.bool _) (hK _ (fin _ (by simp[d1,d2,d3])))⟩
    obtain c|⟨c,c'⟩:=c3'
    ·simp[hr,Qm,c1,c2,jO,c,d1,d2];exact⟨h1,pO _ rfl (Idle.bool _) (hK _ (fin _ (by simp[d1,d2])))⟩
    rw[<- c']at c2 h1;simp[hr,Qm,c1,c2,jO,c,<- c',d1,d2];exact⟨h1,pO _ rfl (Idle.bool _) (hK _ (fin _ (by simp[d1,d2])))⟩
   obtain c|⟨c,c'⟩:=c3'
   ·simp[hr,Qm,c1,c2,jO,c,d1];exact⟨h1,pO _ rfl (Idle.bool _) (hK _ (fin _ (by simp[d1])))⟩
   rw[<- c']at c2 h1;simp[hr,Qm,c1,c2,jO,c,<- c',d1];exact⟨h1,pO _ rfl (Idle.bool _) (hK _ (fin _ (by simp[d1])))⟩
 simp[hr];exact pO _ rfl (Idle.bool _) (hK _ (by simp[jN,hf]))
open Go Go.Abs
def zN(p:Pl)(e:En)(a:Sp):Bool:=match Xh a.2 p.aL with
 |none=>false
 |some y=>decide (y.fr=e.fr)&&(decide (y.ki≠5)&&decide (y.ki≠4))
def Om(p:Pl)(e:En)(kB:List (List Int×AV))(b0:List (List AV)):AM:=bW p (mI p.aL) kB (b0++[[.ptr 3 0],Qd e])
def rdA{p:Pl}{e:En}{kB:List (List Int×AV)}{b0:List (List AV)}{K:AV->AM->Prop}{r:AV}{m':AM}(ex:List (List AV))(hm:m'=bW p (mI p.aL) kB (b0++([.ptr 3 0]::Qd e::ex)))(hi:Idle r)(hK:K r (Om p e kB b0)):RdK (Om p e kB b0) K r m':=
 pO ex (by rw[hm];simp[Om,bW]) hi hK
def Y4(p:Pl)(e:En)(a:Sp)(kB:List (List Int×AV))(b0:List (List AV))(Y:YT)(K:AV->AM->Prop)(hK:K (.bool (!zN p e a)) (Om p e kB b0)):
  an Tryz.prog az Y 315 [.agg (Qe a),.ptr (b0.length+4) 0,.ptr (b0.length+5) 0] (Om p e kB b0) K:=by
 refine Ku (Xe aei (fun _ _ _=>.junk) (by simp) ?_);obtain⟨r,hr,RA⟩:=Di p a.2;simp[ai1,ai2,Om,bW,Qb,Qd,Qe];refine Xu ?_;obtain⟨n,y,hf,rfl⟩|⟨hf,rfl⟩:=RA
 ·by_cases c1:y.fr=e.fr
  ·by_cases c2:y.ki=5
   ·have:(!zN p e a)=true:=by simp[zN,hf,c1,c2]
    rw[this]at hK;simp[hr,Qm,c1,c2];exact rdA _ rfl (Idle.bool _) hK
   by_cases c3:y.ki=4
   ·have:(!zN p e a)=true:=by simp[zN,hf,c1,c2,c3]
    rw[this]at hK;simp[hr,Qm,c1,c2,c3];exact rdA _ rfl (Idle.bool _) hK
   have:(!zN p e a)=false:=by simp[zN,hf,c1,c2,c3]
   rw[this]at hK;have h':(y.ki==5||y.ki==4)=false:=by simp[c2,c3]
   simp[hr,Qm,c1,c2,c3];rw[h'];exact rdA _ rfl (Idle.bool _) hK
  have:(!zN p e a)=true:=by simp[zN,hf,c1]
  rw[this]at hK;have h':(y.fr !=e.fr||y.ki==5||y.ki==4)=true:=by simp[c1]
  simp[hr,Qm,c1];rw[h'];exact rdA _ rfl (Idle.bool _) hK
 have:(!zN p e a)=true:=by simp[zN,hf]
 rw[this]at hK;simp[hr];exact rdA _ rfl (Idle.bool _) hK
def jP{α:Type}(b:α->Bool):List α->Nat->Int
 |[],_=> -1
 |x::r,i=>if b x=true then(i:Int)else jP b r (i+1)
def xJ{α:Type}(b:α->Bool):∀(l:List α)(i:Nat),(0<=jP b l i<->l.any b=true)
 |[],i=>by simp[jP]
 |x::r,i=>by
  rw[jP];cases h:b x with
  |true=>simp[h]
  |false=>simp[h,xJ b r (i+1)]
def asv(s n:Nat)(m0:AM)(R:Nat->Prop)(f:Nat->AV)(m:AM):Prop:=∃(i:Nat),f s=I i/\i<=n/\R i/\m=m0
def Y5(p:Pl)(e:En)(L:List Sp)(hl:L.length<=8796093022208)(kB:List (List Int×AV))(b0:List (List AV))(Y:YT)(K:AV->AM->Prop)(hK:K (I (jP (fun a=>!zN p e a) L 0)) (Om p e kB b0)):
  an Tryz.prog az Y 345 [.sl .ro (L.map Qe),.fn 315 [] [.ptr (b0.length+4) 0,.ptr (b0.length+5) 0]] (Om p e kB b0) K:=by
 obtain⟨T,hT⟩:∃T,jP (fun a=>!zN p e a) L 0=T:=⟨_,rfl⟩;rw[hT]at hK;refine Xe aeq (fun _ _ _=>.gd false .junk) (by simp) ?_;simp[ajg];refine Qi vI (asv 8 L.length (Om p e kB b0) fun i=>jP (fun a=>!zN p e a) (L.drop i) i=T) (fun f _=>L.length-(numOf (f 8)).toNat) ?_ ?_
 ·exact⟨0,by simp,by omega,by simpa using hT,rfl⟩
 rintro f m ⟨i,h8,hi,hx,rfl⟩;rcases zzaa i L.length with ai|bu
 ·obtain⟨a,ha⟩:=aS ai;have ah:=Zc ha;have aa:(i:Int)<(L.length:Int):=by omega
  have hw:=bJ i (by omega);rw[Zb ha,jP]at hx;simp[h8,ai,aa,ah,vI,EL];refine Y4 p e a kB b0 Y _ ?_;cases hb:zN p e a with
  |false=>
   rw[hb]at hx;simp at hx;simp[h8,vI,EL,hx];exact hK
  |true=>
   rw[hb]at hx;simp at hx;simp[h8,vI,EL,hw];refine⟨aO,⟨i+1,by simp,by omega,hx,rfl⟩,by omega⟩
 have bI:¬(i:Int)<(L.length:Int):=by omega
 rw[zzam bu,jP]at hx;simp[h8,bI,zzbm.2 bu,vI,EL,hx];exact hK
def Le(p:Pl)(e:En)(L:List Sp)(hl:L.length<=8796093022208)(kB:List (List Int×AV))(b0:List (List AV))(Y:YT)(K:AV->AM->Prop)(hK:K (.bool (L.any fun a=>!zN p e a)) (Om p e kB b0)):
  an Tryz.prog az Y 316 [.sl .ro (L.map Qe),.fn 315 [] [.ptr (b0.length+4) 0,.ptr (b0.length+5) 0]] (Om p e kB b0) K:=by
 have amT:=xJ (fun a=>!zN p e a) L 0;refine Xe aej (fun _ _ _=>.gd false .junk) (by simp) ?_;simp[ai3];refine Y5 p e L hl kB b0 Y _ ?_
 have:decide (0<=jP (fun a=>!zN p e a) L 0)=L.any fun a=>!zN p e a:=by
  rw[zzbt,decide_eq_true_eq];exact amT
 simp[ai4,this];simpa using hK
def mR(p:Pl)(e:En):Bool:=Kn 1 (p.rg-1) none (e.al.map fun x=>x.1)&&(!(decide (kindOf p e.it=4)&&decide (e.al≠[]))&&!(e.al.any fun a=>!zN p e a))
def Bg(p:Pl)(e:En):Nat->FuncId->List AV->AV:=fun _ f _=>if f=313 then .bool (Kn 1 (p.rg-1) none (e.al.map fun x=>x.1))else .gd false .junk
def amU(p:Pl)(e:En)(hl:e.al.length<=8796093022208)(Ld:1<=p.rg/\p.rg<=8)(kB:List (List Int×AV))(bx:List (List AV))(Y:YT)(K:AV->AM->Prop)(hK:∀b,mR p e=b->K (.bool b) (bW p (mI p.aL) kB bx)):
  an Tryz.prog az Y 270 [.ptr 3 0,.agg (Qd e)] (bW p (mI p.aL) kB bx) K:=by
 have Gj:=Rw e.al 1 (p.rg-1) hl;refine Ku (Xe ad2 (Bg p e) (by simp) ?_);obtain⟨r,hr,RA⟩:=Di p e.it;have pG:IntKind.i64.wrap (p.rg-1)=p.rg-1:=by rw[Qk]<;>omega
 cases h1:Kn 1 (p.rg-1) none (e.al.map fun x=>x.1)with
 |false=>
  rw[h1]at Gj;simp[Aq,oF,bW,Qb,Qd,pG,Bg,h1];exact⟨Gj,pO _ rfl (Idle.bool _) (hK _ (by simp[mR,h1]))⟩
 |true=>
  rw[h1]at Gj;have tl:∀(E:List (Nat×AV)),True:=fun _=>trivial;have hgo:kindOf p e.it=4->e.al≠[]->mR p e=false:=fun h h'=>by simp[mR,h,h']
  have zh:¬(kindOf p e.it=4/\e.al≠[])->mR p e=!(e.al.any fun a=>!zN p e a):=fun h=>by
   have:(decide (kindOf p e.it=4)&&decide (e.al≠[]))=false:=by
    rw[Bool.eq_false_iff];intro h';simp at h';exact h h'
   rw[mR,h1,this];rfl
  obtain⟨n,y,hf,rfl⟩|⟨hf,rfl⟩:=RA
  ·have hkd:kindOf p e.it=y.ki:=by simp[kindOf,hf]
   by_cases c1:y.ki=4
   ·by_cases c2:e.al=[]
    ·have QJ:=zh (by simp[c2]);have c2l:¬0<e.al.length:=by simp[c2]
     simp[Aq,oF,bW,Qb,Qd,pG,Bg,h1,hr,Qm,c1,c2];rw[c2]at Gj;refine⟨Gj,?_⟩;have:=Le p e [] (by simp) kB bx Y;simp only[Om,bW,Qb,Qd,c2]at this;refine this _ ?_;simp[oF];exact pO _ rfl (Idle.bool _) (hK _ (by rw[QJ,c2];rfl))
    have c2l:0<e.al.length:=zzcw.2 c2;simp[Aq,oF,bW,Qb,Qd,pG,Bg,h1,hr,Qm,c1,c2l];exact⟨Gj,pO _ rfl (Idle.bool _) (hK _ (hgo (by rw[hkd,c1]) c2))⟩
   have QJ:=zh (by rw[hkd];exact fun h=>c1 h.1);simp[Aq,oF,bW,Qb,Qd,pG,Bg,h1,hr,Qm,c1];refine⟨Gj,?_⟩;have:=Le p e e.al hl kB bx Y;simp only[Om,bW,Qb,Qd]at this;refine this _ ?_;simp[oF];exact pO _ rfl (Idle.bool _) (hK _ (by rw[QJ]))
  have QJ:=zh (by simp[kindOf,hf]);simp[Aq,oF,bW,Qb,Qd,pG,Bg,h1,hr];refine⟨Gj,?_⟩;have:=Le p e e.al hl kB bx Y;simp only[Om,bW,Qb,Qd]at this;refine this _ ?_;simp[oF];exact pO _ rfl (Idle.bool _) (hK _ (by rw[QJ]))
open Go Go.Abs
def xK(x a:Sp):Bool:=x.1==a.1&&x.2==a.2
def Y6(x:Sp)(L:List Sp):L.any (xK x)=decide (x∈L):=by
 rw[zzbt];simp only[zzbz,decide_eq_true_eq,xK,zzak,beq_iff_eq];constructor
 ·rintro⟨a,h,h1,h2⟩;have:x=a:=Prod.ext h1 h2;rw[this];exact h
 exact fun h=>⟨x,h,rfl,rfl⟩
def Y7(x:Sp)(L:List Sp)(hl:L.length<=8796093022208):Pure Tryz.prog az 346 [.sl .ro (L.map Qe),.agg (Qe x)] (I (jP (xK x) L 0)):=by
 obtain⟨T,hT⟩:∃T,jP (xK x) L 0=T:=⟨_,rfl⟩;rw[hT];refine Qn aer (fun _ _ _=>.junk) (by simp) ?_;simp[ajh,Qe];refine Qi Ck (asv 8 L.length ⟨[[I x.1,I x.2]],[],fun _=>.gone,0⟩ fun i=>jP (xK x) (L.drop i) i=T) (fun f _=>L.length-(numOf (f 8)).toNat) ?_ ?_
 ·exact⟨0,by simp,by omega,by simpa using hT,rfl⟩
 rintro f m ⟨i,h8,hi,hx,rfl⟩;rcases zzaa i L.length with ai|bu
 ·obtain⟨a,ha⟩:=aS ai;have ah:Qh (L.map Qe) i=Qe a:=Zc ha;have aj0:Qh (L.map fun x=>[I x.1,I x.2]) i=Qe a:=ah;have aa:(i:Int)<(L.length:Int):=by omega
  have hw:=bJ i (by omega);rw[Zb ha,jP]at hx;cases hb:xK x a with
  |false=>
   rw[hb]at hx;simp at hx;simp only[xK]at hb;simp[h8,ai,aa,ah,aj0,Ck,NK,hw,Qe,hb];refine⟨aO,⟨i+1,by simp,by omega,hx,rfl⟩,by omega⟩
  |true=>
   rw[hb]at hx;simp at hx;simp only[xK]at hb;subst hx;simp[h8,ai,aa,ah,aj0,Ck,NK,Qe,hb]
 have bI:¬(i:Int)<(L.length:Int):=by omega
 rw[zzam bu,jP]at hx;simp[h8,bI,zzbm.2 bu,Ck,NK,hx]
def Gk(x:Sp)(L:List Sp)(hl:L.length<=8796093022208):Pure Tryz.prog az 317 [.sl .ro (L.map Qe),.agg (Qe x)] (.bool (decide (x∈L))):=by
 have k:=Y7 x L hl;have amT:=xJ (xK x) L 0;refine Qn aek (fun _ _ _=>I (jP (xK x) L 0)) (by simp) ?_
 have:decide (0<=jP (xK x) L 0)=decide (x∈L):=by
  rw[<- Y6,zzbt,decide_eq_true_eq];exact amT
 simp[ai5,ai6,this,Qe];simpa[Qe]using k
def amV(p:Pl)(id:Int):∃r,Xj [id] (mK p.bks) 0=r/\((∃n x,Gi id p.bks=some x/\r=some (n,.agg (Xg x)))\/(Gi id p.bks=none/\r=none)):=by
 obtain⟨g1,g2⟩:=asu id p.bks 0;cases hf:Gi id p.bks with
 |none=>exact⟨_,rfl,.inr ⟨rfl,g1 hf⟩⟩
 |some x=>
  obtain⟨n,g⟩:=g2 x hf;exact⟨_,rfl,.inl ⟨n,x,rfl,g⟩⟩
def RB(p:Pl)(e:En):Bool:=if e.bo=0 then true else match Gi e.bo p.bks with
 |none=>false
 |some x=>if x.re=0 then decide (x.it=e.it)else decide ((x.re,x.it)∈e.al)
def RC(p:Pl)(e:En)(hl:e.al.length<=8796093022208)(kI:List (List Int×AV))(bx:List (List AV))(Y:YT)(K:AV->AM->Prop)(hK:∀b,RB p e=b->K (.bool b) (bW p kI (mK p.bks) bx)):
  an Tryz.prog az Y 271 [.ptr 3 0,.agg (Qd e)] (bW p kI (mK p.bks) bx) K:=by
 obtain⟨r,hr,RA⟩:=amV p e.bo;by_cases h0:e.bo=0
 ·refine Ku (Xe Ch (fun _ _ _=>.junk) (by simp) ?_);simp[NC,ND,bW,Qb,Qd,h0];exact pO _ rfl (Idle.bool _) (hK _ (by simp[RB,h0]))
 obtain⟨n,x,hf,rfl⟩|⟨hf,rfl⟩:=RA
 ·have k:=Gk (x.re,x.it) e.al hl;refine Ku (Xe Ch (fun _ _ _=>.bool (decide ((x.re,x.it)∈e.al))) (by simp) ?_);simp[NC,ND,bW,Qb,Qd,h0];refine Xu ?_;by_cases c1:x.re=0
  ·simp[hr,Xg,c1];exact pO _ rfl (Idle.bool _) (hK _ (by simp only[RB,h0,hf,c1];rw[zzbt];simp))
  simp[hr,Xg,c1];refine⟨by simpa[Qe]using k,pO _ rfl (Idle.bool _) (hK _ (by simp[RB,h0,hf,c1]))⟩
 refine Ku (Xe Ch (fun _ _ _=>.junk) (by simp) ?_);simp[NC,ND,bW,Qb,Qd,h0];refine Xu ?_;simp[hr];exact pO _ rfl (Idle.bool _) (hK _ (by simp[RB,h0,hf]))
def zO(p:Pl)(seen:List Int)(e:En):Bool:=wi e.id 1 1000000&&(!decide (e.id∈seen)&&(jN p e&&(mR p e&&RB p e)))
def Gl(p:Pl):List Int->List En->Bool
 |_,[]=>true
 |seen,e::r=>zO p seen e&&Gl p (seen++[e.id]) r
def xL(p:Pl):Bool:=decide (p.ens.length<=4000)&&Gl p [] p.ens
def mS(l:List Int):List (List Int×AV):=l.map fun n=>([n],.bool true)
def asw(k:Int):∀(l:List Int)(i:Nat),(k∈l->∃n,Xj [k] (mS l) i=some (n,.bool true))/\(¬k∈l->Xj [k] (mS l) i=none)
 |[],i=>⟨fun h=>(by cases h),fun _=>rfl⟩
 |x::r,i=>by
  have ih:=asw k r (i+1);simp only[mS,zzaz,Xj]at ih |-
  by_cases h:x=k
  ·subst h;simp
  have h':¬k=x:=fun e=>h e.symm;rw[if_neg (by intro e;cases e;exact h rfl)];simp only[zzat,h',false_or];exact ih
def xM:Nat->FuncId->List AV->AV:=fun _ f l=>if f=265 then(match l with|[.int _ n,.int _ lo,.int _ up]=>.bool (wi n lo up)|_=>.junk)else .gd false .junk
def amW(p:Pl)(f:Nat->AV)(m:AM):Prop:=∃(i:Nat)(bx:List (List AV)),f 20=I i/\i<=p.ens.length/\Gl p ((p.ens.take i).map fun e=>e.id) (p.ens.drop i)=Gl p [] p.ens/\f 3=.mp 4/\m=bW p (mI p.aL) (mK p.bks) ([.aJ 0 (mS ((p.ens.take i).map fun e=>e.id))]::bx)
def Qdb{p:Pl}{i:Nat}{e:En}(h:p.ens[i]?=some e):Qh (p.ens.map Qd) i=Qd e:=Qs (by simp[h])
def RD(p:Pl)(hl:p.ens.length<=1000000000)(eu:∀e∈p.ens,e.al.length<=8796093022208)(Y3:xI p.aL=true)(Ld:1<=p.rg/\p.rg<=8)(dg:1<=p.ln/\p.ln<=100000000)(Y:YT)(K:AV->AM->Prop)(hK:∀b,xL p=b->K (.bool b) (bW p (mI p.aL) (mK p.bks) [])):
  an Tryz.prog az Y 195 [.ptr 3 0] (bW p (mI p.aL) (mK p.bks) []) K:=by
 refine Ku (Xe adb xM (by simp) ?_);by_cases h0:p.ens.length<=4000
 ·have zl:¬(4000:Int)<(p.ens.length:Int):=by omega
  simp[Nn,bW,Qb,h0,zl];refine Qi qC (amW p) (fun f _=>p.ens.length-(numOf (f 20)).toNat) ?_ ?_
  ·exact⟨0,[],by simp,by omega,by simp,by simp,by simp[bW,Qb,mS]⟩
  rintro f m ⟨i,bx,h20,hi,ha,h3,rfl⟩;rcases zzaa i p.ens.length with ai|bu
  ·obtain⟨e,he⟩:=aS ai;have ah:=Qdb he;have aa:(i:Int)<(p.ens.length:Int):=by omega
   have hw:=bJ i (by omega);have bB:(p.ens.take (i+1)).map (fun e=>e.id)=(p.ens.take i).map (fun e=>e.id)++[e.id]:=by simp[zzas,he]
   rw[Zb he,Gl,<- bB]at ha;obtain⟨S,hS⟩:∃S,(p.ens.take i).map (fun e=>e.id)=S:=⟨_,rfl⟩;rw[hS]at ha bB |-
   have h1:=Ua e.id 1 1000000;have hae:=eu e (zzad he);obtain⟨s1,s2⟩:=asw e.id S 0;have bad:zO p S e=false->xL p=false:=fun h=>by rw[h]at ha;simp[xL,<- ha]
   cases e1:wi e.id 1 1000000 with
   |false=>
    rw[e1]at h1;simp[h20,h3,ai,aa,ah,Qd,bW,Qb,xM,e1,qC,r8];exact⟨h1,pO _ rfl (Idle.bool _) (hK _ (bad (by simp[zO,e1])))⟩
   |true=>
    rw[e1]at h1;by_cases e2:e.id∈S
    ·obtain⟨n,s1⟩:=s1 e2;simp[h20,h3,ai,aa,ah,Qd,bW,Qb,xM,e1,s1,qC,r8];exact⟨h1,pO _ rfl (Idle.bool _) (hK _ (bad (by simp[zO,e1,e2])))⟩
    have s2:=s2 e2;simp[h20,h3,ai,aa,ah,Qd,bW,Qb,xM,e1,s2,qC];refine⟨h1,amS p e (mK p.bks) ([.aJ 0 (mS S)]::(bx++[Qd e])) Y3 dg Y _ fun b hb=>?_⟩;cases b with
    |false=>
     simp[r8];exact pO _ rfl (Idle.bool _) (hK _ (bad (by simp[zO,e1,e2,hb])))
    |true=>
     simp[bW,Qb,Qd,xM];refine amU p e hae Ld (mK p.bks) ([.aJ 0 (mS S)]::(bx++[Qd e])) Y _ fun b mM=>?_;cases b with
     |false=>
      simp[r8];exact pO _ rfl (Idle.bool _) (hK _ (bad (by simp[zO,e1,e2,hb,mM])))
     |true=>
      simp[bW,Qb,Qd,xM];refine RC p e hae (mI p.aL) ([.aJ 0 (mS S)]::(bx++[Qd e])) Y _ fun b hb3=>?_;cases b with
      |false=>
       simp[r8];exact pO _ rfl (Idle.bool _) (hK _ (bad (by simp[zO,e1,e2,hb,mM,hb3])))
      |true=>
       have bQ:zO p S e=true:=by simp[zO,e1,e2,hb,mM,hb3]
       rw[bQ,zzdo]at ha;simp[h20,h3,bW,Qb,Qd,xM,s2,hw,qC];refine⟨aO,⟨i+1,bx++[Qd e],by simp,by omega,ha,by simp[h3],?_⟩,by omega⟩
       ·rw[bB];simp[bW,Qb,Qd,mS]
  have bI:¬(i:Int)<(p.ens.length:Int):=by omega
  rw[zzam bu]at ha;have ha:Gl p [] p.ens=true:=by rw[<- ha];rfl
  simp[h20,bI,zzbm.2 bu,qC,r8,bW,Qb];exact pO _ rfl (Idle.bool _) (hK _ (by simp[xL,h0,ha]))
 have zl:(4000:Int)<(p.ens.length:Int):=by omega
 simp[Nn,r8,bW,Qb,h0,zl];exact pO [] (by simp) (Idle.bool _) (hK _ (by simp[xL,h0]))
open Go Go.Abs
def nU(p:Pl):Bool:=Jl p&&(Tt p&&(jM p&&(xL p&&Qdj p)))
def pR(p:Pl):Nat->FuncId->List AV->AV:=fun _ f _=>if f=192 then .bool (Jl p)else if f=196 then .bool (Qdj p)else .gd false .junk
def PlS(p:Pl):Prop:=p.sh.length<=1000000000/\p.aL.length<=1000000000/\p.ens.length<=1000000000/\p.bks.length<=8796093022208/\p.cls.length<=1000000000/\∀e∈p.ens,e.al.length<=8796093022208
def Wt(p:Pl)(h:PlS p):Pure Tryz.prog az 120 [.agg (Qb p)] (.bool (nU p)):=by
 obtain⟨l1,l2,l3,l4,l5,l6⟩:=h;have k44:=afh p l1;have k48:=Rx p l5;refine Qn acs (pR p) (by simp) ?_;cases e1:Jl p with
 |false=>
  rw[e1]at k44;simp[TV,Ac,Qb,pR,nU,e1];simpa[Qb]using k44
 |true=>
  rw[e1]at k44
  have hs:(1<=p.rg/\p.rg<=8)/\(1<=p.ln/\p.ln<=100000000):=by
   simp[Jl,wi]at e1;omega
  simp[TV,Qb,pR,nU,e1];refine⟨by simpa[Qb]using k44,?_⟩;refine afn p l2 Y0 _ (fun e2=>?_) (fun e2 kI=>?_)
  ·simp[bW,Qb,pR,e2];refine afo p l4 hs.1 Y0 _ (fun e3=>?_) (fun e3 kB=>?_)
   ·simp[bW,Qb,pR,e3]
    have Y3:xI p.aL=true:=by
     simp[Tt]at e2;exact e2.2.2.1
    refine RD p l3 l6 Y3 hs.1 hs.2 Y0 _ fun b e4=>?_;cases b with
    |false=>simp[Ac,bW,Qb,pR,e4]
    |true=>
     simp[Ac,bW,Qb,pR,e4];simpa[Qb]using k48
   simp[Ac,bW,Qb,pR,e3]
  simp[Ac,bW,Qb,pR,e2]
end Go.Proofs.YtnopaopphmjnmaaGreatDoor
