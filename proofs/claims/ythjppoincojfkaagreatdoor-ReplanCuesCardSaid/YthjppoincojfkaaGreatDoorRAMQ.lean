import Derived.Test.YthjppoincojfkaaGreatDoorRASpG
import Derived.Test.YthjppoincojfkaaGreatDoorRATcA
set_option linter.all false
set_option maxRecDepth 100000
set_option maxHeartbeats 64000000
namespace Go.Proofs.YthjppoincojfkaaGreatDoor
open Go Go.Abs
def Ua(n lo up:Int):Pure Tryz.prog aD 204 [I n,I lo,I up] (.bool (wi n lo up)):=by
 refine Qo acW (fun _ _ _=>.junk) zd ?_;by_cases h1:lo<=n<;>by_cases h2:n<=up<;>simp[aho,ahp,wi,h1,h2]
def aiI(e:It):Pure Tryz.prog aD 37 [.agg (Qm e)] (I e.id):=by
 refine Qo SL (fun _ _ _=>.junk) zd ?_;simp[ajD,Qm,ajE]
def xK(e:Bk):Pure Tryz.prog aD 207 [.agg (Xj e)] (I e.id):=by
 refine Qo acZ (fun _ _ _=>.junk) zd ?_;simp[ahq,Xj,ahr]
def xL(e:Sp):Pure Tryz.prog aD 239 [.agg (Qe e)] (I e.1):=by
 refine Qo adg (fun _ _ _=>.junk) zd ?_;simp[ahD,Qe,ahE]
def Sn(k:Int):Option Int->Bool
 |some q=>decide (k<=q)
 |none=>false
def Ku(lo up:Int):Option Int->Pi->Bool
 |_,[]=>true
 |pr,k::r=>if k<lo\/up<k\/Sn k pr=true then false else Ku lo up (some k) r
def Iw(ks:Pi):Nat->Option Int
 |0=>none
 |i+1=>ks[i]?
def Qee{ks:Pi}{i:Nat}{k:Int}(h:ks[i]?=some k):Iw ks (i+1)=some k:=h
def keyOf:P2->Int
 |[.agg (.int _ n::_)]=>n
 |_=>0
def iy:UV:=fun _ _ l=>I (keyOf l)
def rB{lo up:Int}{ks:Pi}{i:Nat}{k:Int}(h:ks[i]?=some k):Ku lo up (Iw ks i) (ks.drop i)=if k<lo\/up<k\/Sn k (Iw ks i)=true then false else Ku lo up (Iw ks (i+1)) (ks.drop (i+1)):=by
 obtain⟨hi,hk⟩:=zza.1 h;rw[zzag hi,hk,Ku,Qee h]
def NV(s n:Nat)(R:Nat->Prop)(f:Nat->AV)(m:AM):Prop:=∃(i:Nat)(bx:T5),f s=I i/\i<=n/\R i/\m=⟨bx,[],fun _=>.gone,0⟩
def QI(L:List It)(lo up:Int)(hl:L.length<=8796093022208):Pure Tryz.prog aD 205 [.sl .ro (L.map Qm),I lo,I up,.fn 37 [] []] (.bool (Ku lo up none (L.map fun x=>x.id))):=by
 obtain⟨T,hT⟩:∃T,Ku lo up none (L.map fun x=>x.id)=T:=⟨_,rfl⟩;rw[hT];refine Qo acX iy zd ?_;simp[TX];refine Qk mQ (NV 14 L.length fun i=>Ku lo up (Iw (L.map fun x=>x.id) i) ((L.map fun x=>x.id).drop i)=T) (fun f _=>L.length-(numOf (f 14)).toNat) ?_ ?_
 ·exact⟨0,_,zd,zE,by simpa[Iw]using hT,rfl⟩
 rintro f m ⟨i,bx,tZ,hi,ha,rfl⟩;rcases zzaa i L.length with ai|bn
 ·obtain⟨x,hx⟩:=aV ai;have ah:Qj (L.map Qm) i=Qm x:=Qu (by simp[hx]);have aa:(i:Int)<(L.length:Int):=zE
  have hw:=bO i zE;have hk:=aiI x;have XZ:(L.map fun x=>x.id)[i]?=some x.id:=by simp[hx]
  rw[rB XZ]at ha;by_cases c1:x.id<lo
  ·rw[if_pos (.inl c1)]at ha;subst ha;simp[tZ,ai,aa,ah,Qm,iy,keyOf,c1,mQ,vG];simpa[Qm]using hk
  by_cases c2:up<x.id
  ·rw[if_pos (.inr (.inl c2))]at ha;subst ha;simp[tZ,ai,aa,ah,Qm,iy,keyOf,c1,c2,mQ,vG];simpa[Qm]using hk
  cases i with
  |zero=>
   rw[if_neg (by simp[c1,c2,Iw,Sn])]at ha;have lJ:IntKind.i64.wrap 1=1:=by decide
   simp[tZ,ai,aa,ah,Qm,iy,keyOf,c1,c2,mQ,vG,hw,lJ];refine⟨by simpa[Qm]using hk,aQ,⟨1,_,zd,zE,ha,rfl⟩,zE⟩
  |succ j=>
   have eE:j<L.length:=zE
   have sV:(j:Int)<(L.length:Int):=zE
   obtain⟨y,hy⟩:=aV eE;have sW:Qj (L.map Qm) j=Qm y:=Qu (by simp[hy]);have hky:=aiI y;have sX:Iw (L.map fun x=>x.id) (j+1)=some y.id:=Qee (by simp[hy]);have Iy:IntKind.i64.wrap (((j+1:Nat):Int)-1)=(j:Int):=by rw[Ql]<;>omega
   have Gl:IntKind.i64.wrap ((j:Int)+1-1)=(j:Int):=by rw[Ql]<;>omega
   have xI:IntKind.i64.wrap (j:Int)=(j:Int):=by rw[Ql]<;>omega
   have dW:(0:Int)<(j:Int)+1:=zE
   have hj0:(0:Int)<=(j:Int):=zE
   have Gm:(0:Int)<=(j:Int)+1:=zE
   have NU:¬(j:Int)<0:=zE
   have Gn:(j:Int)+1<(L.length:Int):=zE
   have fW:IntKind.i64.wrap ((j:Int)+1+1)=((j+1+1:Nat):Int):=by rw[Ql]<;>omega
   by_cases c3:x.id<=y.id
   ·rw[if_pos (.inr (.inr (by rw[sX];simp[Sn,c3])))]at ha;subst ha;simp[tZ,ai,aa,Gn,dW,hj0,Gm,NU,Iy,Gl,xI,eE,sV,ah,sW,Qm,iy,keyOf,c1,c2,c3,mQ,vG];exact⟨by simpa[Qm]using hk,by simpa[Qm]using hky⟩
   rw[if_neg (by rw[sX];simp[c1,c2,c3,Sn])]at ha;simp[tZ,ai,aa,Gn,dW,hj0,Gm,NU,Iy,Gl,xI,eE,sV,ah,sW,Qm,iy,keyOf,c1,c2,c3,mQ,vG,fW];refine⟨by simpa[Qm]using hk,by simpa[Qm]using hky,aQ,⟨j+1+1,_,zd,zE,ha,rfl⟩,zE⟩
 obtain rfl:i=L.length:=zE
 rw[zzal zd]at ha;have ha:true=T:=by rw[<- ha];simp[Ku]
 subst ha;simp[tZ,mQ,vG]
def QJ(L:List Bk)(lo up:Int)(hl:L.length<=8796093022208):Pure Tryz.prog aD 206 [.sl .ro (L.map Xj),I lo,I up,.fn 207 [] []] (.bool (Ku lo up none (L.map fun x=>x.id))):=by
 obtain⟨T,hT⟩:∃T,Ku lo up none (L.map fun x=>x.id)=T:=⟨_,rfl⟩;rw[hT];refine Qo acY iy zd ?_;simp[TY];refine Qk mR (NV 14 L.length fun i=>Ku lo up (Iw (L.map fun x=>x.id) i) ((L.map fun x=>x.id).drop i)=T) (fun f _=>L.length-(numOf (f 14)).toNat) ?_ ?_
 ·exact⟨0,_,zd,zE,by simpa[Iw]using hT,rfl⟩
 rintro f m ⟨i,bx,tZ,hi,ha,rfl⟩;rcases zzaa i L.length with ai|bn
 ·obtain⟨x,hx⟩:=aV ai;have ah:Qj (L.map Xj) i=Xj x:=Qu (by simp[hx]);have aa:(i:Int)<(L.length:Int):=zE
  have hw:=bO i zE;have hk:=xK x;have XZ:(L.map fun x=>x.id)[i]?=some x.id:=by simp[hx]
  rw[rB XZ]at ha;by_cases c1:x.id<lo
  ·rw[if_pos (.inl c1)]at ha;subst ha;simp[tZ,ai,aa,ah,Xj,iy,keyOf,c1,mR,vH];simpa[Xj]using hk
  by_cases c2:up<x.id
  ·rw[if_pos (.inr (.inl c2))]at ha;subst ha;simp[tZ,ai,aa,ah,Xj,iy,keyOf,c1,c2,mR,vH];simpa[Xj]using hk
  cases i with
  |zero=>
   rw[if_neg (by simp[c1,c2,Iw,Sn])]at ha;have lJ:IntKind.i64.wrap 1=1:=by decide
   simp[tZ,ai,aa,ah,Xj,iy,keyOf,c1,c2,mR,vH,hw,lJ];refine⟨by simpa[Xj]using hk,aQ,⟨1,_,zd,zE,ha,rfl⟩,zE⟩
  |succ j=>
   have eE:j<L.length:=zE
   have sV:(j:Int)<(L.length:Int):=zE
   obtain⟨y,hy⟩:=aV eE;have sW:Qj (L.map Xj) j=Xj y:=Qu (by simp[hy]);have hky:=xK y;have sX:Iw (L.map fun x=>x.id) (j+1)=some y.id:=Qee (by simp[hy]);have Iy:IntKind.i64.wrap (((j+1:Nat):Int)-1)=(j:Int):=by rw[Ql]<;>omega
   have Gl:IntKind.i64.wrap ((j:Int)+1-1)=(j:Int):=by rw[Ql]<;>omega
   have xI:IntKind.i64.wrap (j:Int)=(j:Int):=by rw[Ql]<;>omega
   have dW:(0:Int)<(j:Int)+1:=zE
   have hj0:(0:Int)<=(j:Int):=zE
   have Gm:(0:Int)<=(j:Int)+1:=zE
   have NU:¬(j:Int)<0:=zE
   have Gn:(j:Int)+1<(L.length:Int):=zE
   have fW:IntKind.i64.wrap ((j:Int)+1+1)=((j+1+1:Nat):Int):=by rw[Ql]<;>omega
   by_cases c3:x.id<=y.id
   ·rw[if_pos (.inr (.inr (by rw[sX];simp[Sn,c3])))]at ha;subst ha;simp[tZ,ai,aa,Gn,dW,hj0,Gm,NU,Iy,Gl,xI,eE,sV,ah,sW,Xj,iy,keyOf,c1,c2,c3,mR,vH];exact⟨by simpa[Xj]using hk,by simpa[Xj]using hky⟩
   rw[if_neg (by rw[sX];simp[c1,c2,c3,Sn])]at ha;simp[tZ,ai,aa,Gn,dW,hj0,Gm,NU,Iy,Gl,xI,eE,sV,ah,sW,Xj,iy,keyOf,c1,c2,c3,mR,vH,fW];refine⟨by simpa[Xj]using hk,by simpa[Xj]using hky,aQ,⟨j+1+1,_,zd,zE,ha,rfl⟩,zE⟩
 obtain rfl:i=L.length:=zE
 rw[zzal zd]at ha;have ha:true=T:=by rw[<- ha];simp[Ku]
 subst ha;simp[tZ,mR,vH]
def QK(L:List Sp)(lo up:Int)(hl:L.length<=8796093022208):Pure Tryz.prog aD 238 [.sl .ro (L.map Qe),I lo,I up,.fn 239 [] []] (.bool (Ku lo up none (L.map fun x=>x.1))):=by
 obtain⟨T,hT⟩:∃T,Ku lo up none (L.map fun x=>x.1)=T:=⟨_,rfl⟩;rw[hT];refine Qo adf iy zd ?_;simp[T8];refine Qk mT (NV 14 L.length fun i=>Ku lo up (Iw (L.map fun x=>x.1) i) ((L.map fun x=>x.1).drop i)=T) (fun f _=>L.length-(numOf (f 14)).toNat) ?_ ?_
 ·exact⟨0,_,zd,zE,by simpa[Iw]using hT,rfl⟩
 rintro f m ⟨i,bx,tZ,hi,ha,rfl⟩;rcases zzaa i L.length with ai|bn
 ·obtain⟨x,hx⟩:=aV ai;have ah:Qj (L.map Qe) i=Qe x:=Qu (by simp[hx]);have aa:(i:Int)<(L.length:Int):=zE
  have hw:=bO i zE;have hk:=xL x;have XZ:(L.map fun x=>x.1)[i]?=some x.1:=by simp[hx]
  rw[rB XZ]at ha;by_cases c1:x.1<lo
  ·rw[if_pos (.inl c1)]at ha;subst ha;simp[tZ,ai,aa,ah,Qe,iy,keyOf,c1,mT,vJ];simpa[Qe]using hk
  by_cases c2:up<x.1
  ·rw[if_pos (.inr (.inl c2))]at ha;subst ha;simp[tZ,ai,aa,ah,Qe,iy,keyOf,c1,c2,mT,vJ];simpa[Qe]using hk
  cases i with
  |zero=>
   rw[if_neg (by simp[c1,c2,Iw,Sn])]at ha;have lJ:IntKind.i64.wrap 1=1:=by decide
   simp[tZ,ai,aa,ah,Qe,iy,keyOf,c1,c2,mT,vJ,hw,lJ];refine⟨by simpa[Qe]using hk,aQ,⟨1,_,zd,zE,ha,rfl⟩,zE⟩
  |succ j=>
   have eE:j<L.length:=zE
   have sV:(j:Int)<(L.length:Int):=zE
   obtain⟨y,hy⟩:=aV eE;have sW:Qj (L.map Qe) j=Qe y:=Qu (by simp[hy]);have hky:=xL y;have sX:Iw (L.map fun x=>x.1) (j+1)=some y.1:=Qee (by simp[hy]);have Iy:IntKind.i64.wrap (((j+1:Nat):Int)-1)=(j:Int):=by rw[Ql]<;>omega
   have Gl:IntKind.i64.wrap ((j:Int)+1-1)=(j:Int):=by rw[Ql]<;>omega
   have xI:IntKind.i64.wrap (j:Int)=(j:Int):=by rw[Ql]<;>omega
   have dW:(0:Int)<(j:Int)+1:=zE
   have hj0:(0:Int)<=(j:Int):=zE
   have Gm:(0:Int)<=(j:Int)+1:=zE
   have NU:¬(j:Int)<0:=zE
   have Gn:(j:Int)+1<(L.length:Int):=zE
   have fW:IntKind.i64.wrap ((j:Int)+1+1)=((j+1+1:Nat):Int):=by rw[Ql]<;>omega
   by_cases c3:x.1<=y.1
   ·rw[if_pos (.inr (.inr (by rw[sX];simp[Sn,c3])))]at ha;subst ha;simp[tZ,ai,aa,Gn,dW,hj0,Gm,NU,Iy,Gl,xI,eE,sV,ah,sW,Qe,iy,keyOf,c1,c2,c3,mT,vJ];exact⟨by simpa[Qe]using hk,by simpa[Qe]using hky⟩
   rw[if_neg (by rw[sX];simp[c1,c2,c3,Sn])]at ha;simp[tZ,ai,aa,Gn,dW,hj0,Gm,NU,Iy,Gl,xI,eE,sV,ah,sW,Qe,iy,keyOf,c1,c2,c3,mT,vJ,fW];refine⟨by simpa[Qe]using hk,by simpa[Qe]using hky,aQ,⟨j+1+1,_,zd,zE,ha,rfl⟩,zE⟩
 obtain rfl:i=L.length:=zE
 rw[zzal zd]at ha;have ha:true=T:=by rw[<- ha];simp[Ku]
 subst ha;simp[tZ,mT,vJ]
def Jo(p:Pl):Bool:=wi p.ch 0 39&&(Vh p.nu p.de&&(Yj p.of p.sh&&(wi p.ep 0 9000000000&&(wi p.rg 1 8&&wi p.ln 1 100000000))))
def xM(p:Pl):UV:=fun _ f l=>
 if f=132 then .bool (Vh p.nu p.de)else if f=133 then .bool (Yj p.of p.sh)else(match l with|[.int _ n,.int _ lo,.int _ up]=>.bool (wi n lo up)|_=>.junk)
def aen(p:Pl)(fB:p.sh.length<=1000000000):Pure Tryz.prog aD 153 [.ep (Qa p++[.junk,.junk]) 0] (.bool (Jo p)):=by
 have h1:=Ua p.ch 0 39;have h2:=Wt p.nu p.de;have h3:=jI p.of p.sh fB;have h4:=Ua p.ep 0 9000000000;have h5:=Ua p.rg 1 8;have h6:=Ua p.ln 1 100000000;refine Qo aci (xM p) zd ?_;cases e1:wi p.ch 0 39 with
 |false=>rw[e1]at h1;simp[vu,vw,Qa,xM,Jo,e1];exact h1
 |true=>
  rw[e1]at h1;cases e2:Vh p.nu p.de with
  |false=>rw[e2]at h2;simp[vu,vw,Qa,xM,Jo,e1,e2];exact⟨h1,h2⟩
  |true=>
   rw[e2]at h2;cases e3:Yj p.of p.sh with
   |false=>rw[e3]at h3;simp[vu,vw,Qa,xM,Jo,e1,e2,e3];exact⟨h1,h2,h3⟩
   |true=>
    rw[e3]at h3;cases e4:wi p.ep 0 9000000000 with
    |false=>rw[e4]at h4;simp[vu,vw,Qa,xM,Jo,e1,e2,e3,e4];exact⟨h1,h2,h3,h4⟩
    |true=>
     rw[e4]at h4;cases e5:wi p.rg 1 8 with
     |false=>rw[e5]at h5;simp[vu,vw,Qa,xM,Jo,e1,e2,e3,e4,e5];exact⟨h1,h2,h3,h4,h5⟩
     |true=>rw[e5]at h5;simp[vu,vw,Qa,xM,Jo,e1,e2,e3,e4,e5];exact⟨h1,h2,h3,h4,h5,h6⟩
def aeo:List Cl->Bool
 |[]=>true
 |c::r=>Zd c&&aeo r
def Qdo(p:Pl):Bool:=decide (p.cls.length<=400)&&aeo p.cls
def Bi:UV:=fun _ _ l=>match l with
 |[.agg [.int _ a,.int _ b,.int _ c,.int _ d,.int _ e,.int _ f,.int _ g,.int _ h]]=>.bool (Zd ⟨a,b,c,d,e,f,g,h⟩)
 |_=>.junk
def QL(p:Pl)(hc:p.cls.length<=1000000000):Pure Tryz.prog aD 157 [.ep (Qa p++[.junk,.junk]) 0] (.bool (Qdo p)):=by
 refine Qo acn Bi zd ?_;by_cases h0:p.cls.length<=400
 ·have zA:¬(400:Int)<(p.cls.length:Int):=zE
  obtain⟨T,hT⟩:∃T,Qdo p=T:=⟨_,rfl⟩;rw[hT];simp[TI,Qa,h0,zA];refine Qk B8 (NV 18 p.cls.length fun i=>aeo (p.cls.drop i)=T) (fun f _=>p.cls.length-(numOf (f 18)).toNat) ?_ ?_
  ·exact⟨0,_,zd,zE,by rw[<- hT];simp[Qdo,h0],rfl⟩
  rintro f m ⟨i,bx,h18,hi,ha,rfl⟩;rcases zzaa i p.cls.length with ai|bn
  ·obtain⟨x,hx⟩:=aV ai;have ah:Qj (p.cls.map Qg) i=Qg x:=Qu (by simp[hx]);have aa:(i:Int)<(p.cls.length:Int):=zE
   have hw:=bO i zE;have hk:=Ky x;rw[Zb hx,aeo]at ha;cases hv:Zd x with
   |false=>
    rw[hv]at ha hk;simp at ha;simp[h18,ai,aa,ah,Qg,Bi,hv,B8,Ew,ha];simpa[Qg]using hk
   |true=>
    rw[hv]at ha hk;simp at ha;simp[h18,ai,aa,ah,Qg,Bi,hv,B8,Ew,hw];refine⟨by simpa[Qg]using hk,aQ,⟨i+1,_,zd,zE,ha,rfl⟩,zE⟩
  obtain rfl:i=p.cls.length:=zE
  rw[zzbv]at ha;have ha:true=T:=ha;subst ha;simp[h18,B8,Ew]
 have zA:(400:Int)<(p.cls.length:Int):=zE
 simp[TI,Ew,Qa,Qdo,h0,zA]
open Go Go.Abs
def mI(l:List It):List (Pi×AV):=l.map fun x=>([x.id],.agg (Qm x))
def mK(l:List Bk):List (Pi×AV):=l.map fun x=>([x.id],.agg (Xj x))
def Gp(id:Int):List Bk->Option Bk
 |[]=>none
 |x::r=>if x.id=id then some x else Gp id r
def xN{k:Pi}:∀{kvs:List (Pi×AV)}{i:Nat},(∀p∈kvs,p.1≠k)->Xi k kvs i=none
 |[],_,_=>rfl
 |(k',a)::r,i,h=>by
  rw[Xi,if_neg (fun e=>h (k',a) zd e.symm)];exact xN fun p hp=>h p (by simp[hp])
def al7(id:Int):∀(l:List It)(i:Nat),(Xk id l=none->Xi [id] (mI l) i=none)/\∀x,Xk id l=some x->∃n,Xi [id] (mI l) i=some (n,.agg (Qm x))
 |[],i=>⟨fun _=>rfl,fun x h=>by cases h⟩
 |y::r,i=>by
  have ih:=al7 id r (i+1);simp only[mI,zzaz,Xi,Xk]at ih |-
  by_cases h:y.id=id
  ·rw[if_pos h,if_pos (by rw[h])];exact⟨fun h=>(by cases h),fun x h=>(by cases h;exact⟨i,rfl⟩)⟩
  rw[if_neg h,if_neg (by intro e;cases e;exact h rfl)];exact ih
def asF(id:Int):∀(l:List Bk)(i:Nat),(Gp id l=none->Xi [id] (mK l) i=none)/\∀x,Gp id l=some x->∃n,Xi [id] (mK l) i=some (n,.agg (Xj x))
 |[],i=>⟨fun _=>rfl,fun x h=>by cases h⟩
 |y::r,i=>by
  have ih:=asF id r (i+1);simp only[mK,zzaz,Xi,Gp]at ih |-
  by_cases h:y.id=id
  ·rw[if_pos h,if_pos (by rw[h])];exact⟨fun h=>(by cases h),fun x h=>(by cases h;exact⟨i,rfl⟩)⟩
  rw[if_neg h,if_neg (by intro e;cases e;exact h rfl)];exact ih
def kU{lo up:Int}:∀{ks:Pi}{pr:Option Int},Ku lo up pr ks=true->ks.Pairwise (·<·)/\∀k∈ks,lo<=k/\k<=up/\∀q,pr=some q->q<k
 |[],pr,_=>⟨List.Pairwise.nil,fun k hk=>by cases hk⟩
 |k::r,pr,h=>by
  rw[Ku]at h;split at h
  ·cases h
  rename_i hn;simp only[not_or]at hn;obtain⟨h1,h2⟩:=kU h
  have hk:∀q,pr=some q->q<k:=fun q hq=>by
   have:=hn.2.2;subst hq;simp[Sn]at this;omega
  refine⟨zzcb.2 ⟨fun a ha=>(h2 a ha).2.2 k rfl,h1⟩,fun a ha=>?_⟩;rcases zzao.1 ha with rfl|ha
  ·exact⟨zE,zE,hk⟩
  obtain⟨g1,g2,g3⟩:=h2 a ha;refine⟨g1,g2,fun q hq=>?_⟩;have:=hk q hq;have:=g3 k rfl;omega
def xO{α:Type}{key:α->Int}{row:α->AV}{l:List α}{i:Nat}{x:α}(h:(l.map key).Pairwise (·<·))(hx:l[i]?=some x):Xi [key x] ((l.take i).map fun x=>([key x],row x)) 0=none:=by
 refine xN fun p hp=>?_;obtain⟨y,hy,rfl⟩:=zzbg.1 hp;obtain⟨j,hj,ou⟩:=zzfs hy;rw[zzaq]at hj;rw[List.getElem_take]at ou;obtain⟨hi,hx⟩:=zza.1 hx
 have ai:key l[j]<key l[i]:=by
  have:=zzdn.1 h j i (by simp;omega) (Nm hi) zE;simpa using this
 intro e;rw[<- ou,<- hx]at e;simp only[List.cons.injEq,and_true]at e;omega
def Sq(x:It):Bool:=wi x.ki 1 5&&(wi x.fr 1 100000000&&(wi x.sp 0 200&&wi x.ra 0 3))
def xP:List It->Bool
 |[]=>true
 |x::r=>Sq x&&xP r
def gQ(p:Pl):Bool:=match Xk p.fi p.aN with
 |some x=>decide (x.ki=5)
 |none=>false
def Sr(p:Pl):Bool:=decide (p.aN.length<=4000)&&(Ku 1 1000000 none (p.aN.map fun x=>x.id)&&(xP p.aN&&gQ p))
def bX(p:Pl)(kI kB:List (Pi×AV))(bx:T5):AM:=⟨Qa p::[.aJ 0 kI]::[.aJ 0 kB]::(Qa p++[.mp 1,.mp 2])::bx,[],fun _=>.gone,0⟩
def aep(x:It):Idle (.agg (Qm x)):=Idle.agg fun c hc=>by
 simp only[Qm,zzao,zzd,or_false]at hc;rcases hc with rfl|rfl|rfl|rfl|rfl<;>exact Idle.int _ _
def aeq(x:Bk):Idle (.agg (Xj x)):=Idle.agg fun c hc=>by
 simp only[Xj,zzao,zzd,or_false]at hc;rcases hc with rfl|rfl|rfl|rfl|rfl|rfl|rfl<;>exact Idle.int _ _
def BkK(p:Pl)(K:So)(r:AV)(m:AM):Prop:=∃kI kB bx,m=bX p kI kB bx/\(∀e∈kI,Idle e.2)/\(∀e∈kB,Idle e.2)/\Idle r/\K r (bX p kI kB [])
def Bj{p:Pl}{K:So}{r:AV}{m:AM}(kI kB:List (Pi×AV))(bx:T5)(hm:m=bX p kI kB bx)(h1:∀e∈kI,Idle e.2)(h2:∀e∈kB,Idle e.2)(h3:Idle r)(h4:K r (bX p kI kB [])):BkK p K r m:=⟨kI,kB,bx,hm,h1,h2,h3,h4⟩
def sY{f:FuncId}{xs:P2}{p:Pl}{Y:YT}{k0 b0:List (Pi×AV)}{K:So}
  (h:aB Tryz.prog aD Y f xs (bX p k0 b0 []) (BkK p K)):aB Tryz.prog aD Y f xs (bX p k0 b0 []) K:=by
 refine aB.forget (aB.mono h ?_);rintro r m' ⟨kI,kB,bx,rfl,h1,h2,h3,h4⟩;refine⟨bX p kI kB [],bx,rfl,rfl,rfl,fun id cells hc=>?_,h3,h4⟩
 match id,hc with
 |0,hc=>exact .inl hc
 |1,hc=>cases hc;exact .inr (.inr ⟨0,kI,rfl,h1⟩)
 |2,hc=>cases hc;exact .inr (.inr ⟨0,kB,rfl,h2⟩)
 |3,hc=>exact .inl hc
 |n+4,hc=>cases hc
def pN(p:Pl):UV:=fun _ f l=>
 if f=205 then .bool (Ku 1 1000000 none (p.aN.map fun x=>x.id))else(match l with|[.int _ n,.int _ lo,.int _ up]=>.bool (wi n lo up)|_=>.junk)
def Vz(l:List It):∀e∈mI l,Idle e.2:=fun e he=>by
 obtain⟨x,_,rfl⟩:=zzbg.1 he;exact aep x
def Qba(l:List Bk):∀e∈mK l,Idle e.2:=fun e he=>by
 obtain⟨x,_,rfl⟩:=zzbg.1 he;exact aeq x
def aer{l:List It}{i:Nat}{x:It}(h:l[i]?=some x):mI (l.take (i+1))=mI (l.take i)++[([x.id],.agg (Qm x))]:=by
 simp[mI,zzax,h]
def aes{l:List Bk}{i:Nat}{x:Bk}(h:l[i]?=some x):mK (l.take (i+1))=mK (l.take i)++[([x.id],.agg (Xj x))]:=by
 simp[mK,zzax,h]
def Uy{P:Pi×AV->Prop}:∀e∈([]:List (Pi×AV)),P e:=fun e h=>by cases h
def aiJ(s n:Nat)(p:Pl)(kI kB:Nat->List (Pi×AV))(R:Nat->Prop)(f:Nat->AV)(m:AM):Prop:=∃(i:Nat)(bx:T5),f s=I i/\i<=n/\R i/\m=bX p (kI i) (kB i) bx
def aet(p:Pl)(hl:p.aN.length<=1000000000)(Y:YT)(K:So)(VE:Sr p=true->K (.bool true) (bX p (mI p.aN) [] []))(rC:Sr p=false->∀kI,K (.bool false) (bX p kI [] [])):
  aB Tryz.prog aD Y 154 [.ptr 3 0] (bX p [] [] []) K:=by
 have k90:=QI p.aN 1 1000000 zE;refine sY ?_;refine Xn acj (pN p) zd ?_;by_cases h0:p.aN.length<=4000
 ·have zA:¬(4000:Int)<(p.aN.length:Int):=zE
  cases ha:Ku 1 1000000 none (p.aN.map fun x=>x.id)with
  |false=>
   rw[ha]at k90;simp[Et,oB,bX,Qa,h0,zA,pN,ha];exact⟨k90,Bj _ _ _ rfl Uy Uy (Idle.bool _) (rC (by simp[Sr,ha]) [])⟩
  |true=>
   rw[ha]at k90;have hp:=(kU ha).1;simp[Et,bX,Qa,h0,zA,pN,ha];refine⟨k90,?_⟩;refine Qk iQ (aiJ 27 p.aN.length p (fun i=>mI (p.aN.take i)) (fun _=>[]) fun i=>xP (p.aN.drop i)=xP p.aN) (fun f _=>p.aN.length-(numOf (f 27)).toNat) ?_ ?_
   ·exact⟨0,[],zd,zE,zd,by simp[bX,Qa,mI]⟩
   rintro f m ⟨i,bx,h27,hi,fR,rfl⟩;rcases zzaa i p.aN.length with ai|bn
   ·obtain⟨x,hx⟩:=aV ai;have ah:Qj (p.aN.map Qm) i=Qm x:=Qu (by simp[hx]);have aa:(i:Int)<(p.aN.length:Int):=zE
    have hw:=bO i zE;have hkf:Xi [x.id] (mI (p.aN.take i)) 0=none:=xO (key:=fun x=>x.id) (row:=fun x=>.agg (Qm x)) hp hx;have bA:=aer hx;rw[Zb hx,xP]at fR;have h1:=Ua x.ki 1 5;have h2:=Ua x.fr 1 100000000;have h3:=Ua x.sp 0 200;have h4:=Ua x.ra 0 3;have bad:Sq x=false->Sr p=false:=fun h=>by rw[h]at fR;simp[Sr,<- fR]
    cases e1:wi x.ki 1 5 with
    |false=>
     rw[e1]at h1;simp[h27,ai,aa,ah,Qm,bX,Qa,pN,e1,iQ,oB];exact⟨h1,Bj _ _ _ rfl (Vz _) Uy (Idle.bool _) (rC (bad (by simp[Sq,e1])) _)⟩
    |true=>
     rw[e1]at h1;cases e2:wi x.fr 1 100000000 with
     |false=>
      rw[e2]at h2;simp[h27,ai,aa,ah,Qm,bX,Qa,pN,e1,e2,iQ,oB];exact⟨h1,h2,Bj _ _ _ rfl (Vz _) Uy (Idle.bool _) (rC (bad (by simp[Sq,e1,e2])) _)⟩
     |true=>
      rw[e2]at h2;cases e3:wi x.sp 0 200 with
      |false=>
       rw[e3]at h3;simp[h27,ai,aa,ah,Qm,bX,Qa,pN,e1,e2,e3,iQ,oB];exact⟨h1,h2,h3,Bj _ _ _ rfl (Vz _) Uy (Idle.bool _) (rC (bad (by simp[Sq,e1,e2,e3])) _)⟩
      |true=>
       rw[e3]at h3;cases e4:wi x.ra 0 3 with
       |false=>
        rw[e4]at h4;simp[h27,ai,aa,ah,Qm,bX,Qa,pN,e1,e2,e3,e4,iQ,oB];exact⟨h1,h2,h3,h4,Bj _ _ _ rfl (Vz _) Uy (Idle.bool _) (rC (bad (by simp[Sq,e1,e2,e3,e4])) _)⟩
       |true=>
        rw[e4]at h4;have bU:Sq x=true:=by simp[Sq,e1,e2,e3,e4]
        rw[bU,zzds]at fR;simp[h27,ai,aa,ah,Qm,bX,Qa,pN,e1,e2,e3,e4,iQ,hw,hkf];refine⟨h1,h2,h3,h4,aQ,⟨i+1,bx++[Qm x],zd,zE,fR,?_⟩,zE⟩
        ·simp only[bA];simp[Qm,bX,Qa]
   have bQ:¬(i:Int)<(p.aN.length:Int):=zE
   rw[zzal bn]at fR;have lZ:p.aN.take i=p.aN:=zzau bn;simp only[lZ];have fR:xP p.aN=true:=by rw[<- fR];rfl
   obtain⟨g1,g2⟩:=al7 p.fi p.aN 0;cases hf:Xk p.fi p.aN with
   |none=>
    have g:=g1 hf;simp[h27,bQ,iQ,oB,bX,Qa,g];exact Bj _ _ _ rfl (Vz _) Uy (Idle.bool _) (rC (by simp[Sr,gQ,hf]) _)
   |some x=>
    obtain⟨n,g⟩:=g2 x hf;simp[h27,bQ,iQ,oB,bX,Qa,g,Qm];by_cases h5:x.ki=5
    ·simp only[h5];exact Bj _ _ _ rfl (Vz _) Uy (Idle.bool _) (VE (by simp[Sr,gQ,hf,h0,ha,fR,h5]))
    have h5':(x.ki==5)=false:=by simpa using h5
    rw[h5'];exact Bj _ _ _ rfl (Vz _) Uy (Idle.bool _) (rC (by simp[Sr,gQ,hf,h5]) _)
 have zA:(4000:Int)<(p.aN.length:Int):=zE
 simp[Et,oB,bX,Qa,h0,zA,pN];exact Bj _ _ _ rfl Uy Uy (Idle.bool _) (rC (by simp[Sr,h0]) [])
open Go Go.Abs
def Di(x:Bk):Bool:=decide (0<=x.fr)&&(decide (x.fr<x.to)&&(decide (x.to<=x.un)&&decide (x.un<=100000000)))
def kindOf(p:Pl)(id:Int):Int:=match Xk id p.aN with
 |some y=>y.ki
 |none=>0
def X3(p:Pl)(x:Bk):Bool:=decide (kindOf p x.it=2)&&(wi x.re 0 (p.rg-1)&&(Di x&&wi x.pr 0 1000000000))
def QM(p:Pl):List Bk->Bool
 |[]=>true
 |x::r=>X3 p x&&QM p r
def jN(p:Pl):Bool:=decide (p.bks.length<=2000)&&(Ku 1 1000000 none (p.bks.map fun x=>x.id)&&QM p p.bks)
def Dj(p:Pl)(id:Int):∃r,Xi [id] (mI p.aN) 0=r/\((∃n x,Xk id p.aN=some x/\r=some (n,.agg (Qm x)))\/(Xk id p.aN=none/\r=none)):=by
 obtain⟨g1,g2⟩:=al7 id p.aN 0;cases hf:Xk id p.aN with
 |none=>exact⟨_,rfl,.inr ⟨rfl,g1 hf⟩⟩
 |some x=>
  obtain⟨n,g⟩:=g2 x hf;exact⟨_,rfl,.inl ⟨n,x,rfl,g⟩⟩
def QN(p:Pl):UV:=fun _ f l=>
 if f=206 then .bool (Ku 1 1000000 none (p.bks.map fun x=>x.id))else(match l with|[.int _ n,.int _ lo,.int _ up]=>.bool (wi n lo up)|_=>.junk)
def aeu(p:Pl)(hl:p.bks.length<=8796093022208)(NW:1<=p.rg/\p.rg<=8)(Y:YT)(K:So)(VE:jN p=true->K (.bool true) (bX p (mI p.aN) (mK p.bks) []))(rC:jN p=false->∀kB,K (.bool false) (bX p (mI p.aN) kB [])):
  aB Tryz.prog aD Y 155 [.ptr 3 0] (bX p (mI p.aN) [] []) K:=by
 have k90:=QJ p.bks 1 1000000 hl;refine sY ?_;refine Xn ack (QN p) zd ?_;by_cases h0:p.bks.length<=2000
 ·have zA:¬(2000:Int)<(p.bks.length:Int):=zE
  cases ha:Ku 1 1000000 none (p.bks.map fun x=>x.id)with
  |false=>
   rw[ha]at k90;simp[Eu,fG,bX,Qa,h0,zA,QN,ha];exact⟨k90,Bj _ _ _ rfl (Vz _) Uy (Idle.bool _) (rC (by simp[jN,ha]) [])⟩
  |true=>
   rw[ha]at k90;have hp:=(kU ha).1;simp[Eu,bX,Qa,h0,zA,QN,ha];refine⟨k90,?_⟩;refine Qk ey (aiJ 28 p.bks.length p (fun _=>mI p.aN) (fun i=>mK (p.bks.take i)) fun i=>QM p (p.bks.drop i)=QM p p.bks) (fun f _=>p.bks.length-(numOf (f 28)).toNat) ?_ ?_
   ·exact⟨0,[],zd,zE,zd,by simp[bX,Qa,mK]⟩
   rintro f m ⟨i,bx,h28,hi,fR,rfl⟩;rcases zzaa i p.bks.length with ai|bn
   ·obtain⟨x,hx⟩:=aV ai;have ah:Qj (p.bks.map Xj) i=Xj x:=Qu (by simp[hx]);have aa:(i:Int)<(p.bks.length:Int):=zE
    have hw:=bO i zE;have ru:IntKind.i64.wrap (p.rg-1)=p.rg-1:=by rw[Ql]<;>omega
    have hkf:Xi [x.id] (mK (p.bks.take i)) 0=none:=xO (key:=fun x=>x.id) (row:=fun x=>.agg (Xj x)) hp hx;have bA:=aes hx;rw[Zb hx,QM]at fR;have h1:=Ua x.re 0 (p.rg-1);have h2:=Ua x.pr 0 1000000000;have bad:X3 p x=false->jN p=false:=fun h=>by rw[h]at fR;simp[jN,<- fR]
    obtain⟨r,hr,QO⟩:=Dj p x.it;by_cases fq:kindOf p x.it=2
    ·obtain⟨n,y,hf,rfl⟩|⟨hf,rfl⟩:=QO
     ·have hy:y.ki=2:=by simpa[kindOf,hf]using fq
      cases e1:wi x.re 0 (p.rg-1)with
      |false=>
       rw[e1]at h1;simp[h28,ai,aa,ah,Xj,bX,Qa,QN,hr,Qm,hy,ru,e1,ey,fG];exact⟨h1,Bj _ _ _ rfl (Vz _) (Qba _) (Idle.bool _) (rC (bad (by simp[X3,e1])) _)⟩
      |true=>
       rw[e1]at h1;cases e2:Di x with
       |false=>
        have e2':¬(0<=x.fr)\/(0<=x.fr/\¬x.fr<x.to)\/(0<=x.fr/\x.fr<x.to/\¬x.to<=x.un)\/(0<=x.fr/\x.fr<x.to/\x.to<=x.un/\¬x.un<=100000000):=by
         simp[Di]at e2;omega
        obtain c1|⟨c1,c2⟩|⟨c1,c2,c3⟩|⟨c1,c2,c3,c4⟩:=e2'
        ·simp[h28,ai,aa,ah,Xj,bX,Qa,QN,hr,Qm,hy,ru,e1,c1,ey,fG];exact⟨h1,Bj _ _ _ rfl (Vz _) (Qba _) (Idle.bool _) (rC (bad (by simp[X3,e1,e2])) _)⟩
        ·simp[h28,ai,aa,ah,Xj,bX,Qa,QN,hr,Qm,hy,ru,e1,c1,c2,ey,fG];exact⟨h1,Bj _ _ _ rfl (Vz _) (Qba _) (Idle.bool _) (rC (bad (by simp[X3,e1,e2])) _)⟩
        ·simp[h28,ai,aa,ah,Xj,bX,Qa,QN,hr,Qm,hy,ru,e1,c1,c2,c3,ey,fG];exact⟨h1,Bj _ _ _ rfl (Vz _) (Qba _) (Idle.bool _) (rC (bad (by simp[X3,e1,e2])) _)⟩
        simp[h28,ai,aa,ah,Xj,bX,Qa,QN,hr,Qm,hy,ru,e1,c1,c2,c3,c4,ey,fG];exact⟨h1,Bj _ _ _ rfl (Vz _) (Qba _) (Idle.bool _) (rC (bad (by simp[X3,e1,e2])) _)⟩
       |true=>
        have e2':0<=x.fr/\x.fr<x.to/\x.to<=x.un/\x.un<=100000000:=by
         simp[Di]at e2;omega
        obtain⟨c1,c2,c3,c4⟩:=e2';cases e3:wi x.pr 0 1000000000 with
        |false=>
         rw[e3]at h2;simp[h28,ai,aa,ah,Xj,bX,Qa,QN,hr,Qm,hy,ru,e1,c1,c2,c3,c4,e3,ey,fG];exact⟨h1,h2,Bj _ _ _ rfl (Vz _) (Qba _) (Idle.bool _) (rC (bad (by simp[X3,e1,e2,e3])) _)⟩
        |true=>
         rw[e3]at h2;have bU:X3 p x=true:=by simp[X3,fq,e1,e2,e3]
         rw[bU,zzds]at fR;simp[h28,ai,aa,ah,Xj,bX,Qa,QN,hr,Qm,hy,ru,e1,c1,c2,c3,c4,e3,ey,fG,hw,hkf];refine⟨h1,h2,aQ,⟨i+1,bx++[Xj x],zd,zE,fR,?_⟩,zE⟩
         ·simp only[bA];simp[Xj,bX,Qa]
     simp[kindOf,hf]at fq
    have hb:=bad (by simp[X3,fq]);obtain⟨n,y,hf,rfl⟩|⟨hf,rfl⟩:=QO
    ·have hy:¬y.ki=2:=by simpa[kindOf,hf]using fq
     simp[h28,ai,aa,ah,Xj,bX,Qa,QN,hr,Qm,hy,ru,ey,fG];exact Bj _ _ _ rfl (Vz _) (Qba _) (Idle.bool _) (rC hb _)
    simp[h28,ai,aa,ah,Xj,bX,Qa,QN,hr,Qm,ru,ey,fG];exact Bj _ _ _ rfl (Vz _) (Qba _) (Idle.bool _) (rC hb _)
   have bQ:¬(i:Int)<(p.bks.length:Int):=zE
   rw[zzal bn]at fR;have lZ:p.bks.take i=p.bks:=zzau bn;simp only[lZ];have fR:QM p p.bks=true:=by rw[<- fR];rfl
   simp[h28,bQ,ey,fG,bX,Qa];exact Bj _ _ _ rfl (Vz _) (Qba _) (Idle.bool _) (VE (by simp[jN,h0,ha,fR]))
 have zA:(2000:Int)<(p.bks.length:Int):=zE
 simp[Eu,fG,bX,Qa,h0,zA,QN];exact Bj _ _ _ rfl (Vz _) Uy (Idle.bool _) (rC (by simp[jN,h0]) [])
open Go Go.Abs
def RdK(m:AM)(K:So)(r:AV)(m':AM):Prop:=∃ex,m'={m with boxes:=m.boxes++ex}/\Idle r/\K r m
def pO{m:AM}{K:So}{r:AV}{m':AM}(ex:T5)(hm:m'={m with boxes:=m.boxes++ex})(hi:Idle r)(hK:K r m):RdK m K r m':=⟨ex,hm,hi,hK⟩
def We{f:FuncId}{xs:P2}{m:AM}{Y:YT}{K:So}(h:aB Tryz.prog aD Y f xs m (RdK m K)):aB Tryz.prog aD Y f xs m K:=by
 refine aB.mono (aB.read (K:=fun r=>K r m) (aB.mono h fun r m' h=>h)) ?_;rintro r m' ⟨rfl,h⟩;exact h
def pP:∀{l:List It},xP l=true->∀x∈l,Sq x=true
 |y::r,h,x,hx=>by
  rw[xP,zzac]at h;rcases zzao.1 hx with rfl|hx
  ·exact h.1
  exact pP h.2 x hx
def X4{x:It}(h:Sq x=true):(1<=x.ki/\x.ki<=5)/\(1<=x.fr/\x.fr<=100000000)/\(0<=x.sp/\x.sp<=200)/\(0<=x.ra/\x.ra<=3):=by
 simp only[Sq,wi,zzac,decide_eq_true_eq]at h;exact h
def jO(p:Pl)(e:En):Bool:=match Xk e.it p.aN with
 |none=>false
 |some y=>if y.ki=5 then false else if wi e.fr 1 y.fr=false then false else if y.ki≠4/\e.fr≠y.fr then false else decide (0<=e.ea)&&(decide (e.ea<=e.la)&&decide (e.la<=p.ln-e.fr))
def jP:UV:=fun _ f l=>match l with|[.int _ n,.int _ lo,.int _ up]=>.bool (wi n lo up)|_=>.junk
def al8(p:Pl)(e:En)(kB:List (Pi×AV))(bx:T5)(X5:xP p.aN=true)(dG:1<=p.ln/\p.ln<=100000000)(Y:YT)(K:So)(hK:∀b,jO p e=b->K (.bool b) (bX p (mI p.aN) kB bx)):
  aB Tryz.prog aD Y 208 [.ptr 3 0,.agg (Qd e)] (bX p (mI p.aN) kB bx) K:=by
 refine We (Xn ac0 jP zd ?_);obtain⟨r,hr,QO⟩:=Dj p e.it;simp[ahs,aht,bX,Qa,Qd];refine Ul ?_;obtain⟨n,y,hf,rfl⟩|⟨hf,rfl⟩:=QO
 ·obtain⟨g1,g2,g3,g4⟩:=X4 (pP X5 y (xQ hf).1);have h1:=Ua e.fr 1 y.fr;by_cases c1:y.ki=5
  ·simp[hr,Qm,c1];exact pO _ rfl (Idle.bool _) (hK _ (by simp[jO,hf,c1]))
  cases c2:wi e.fr 1 y.fr with
  |false=>
   rw[c2]at h1;simp[hr,Qm,c1,c2,jP];exact⟨h1,pO _ rfl (Idle.bool _) (hK _ (by simp[jO,hf,c1,c2]))⟩
  |true=>
   rw[c2]at h1;have c2':1<=e.fr/\e.fr<=y.fr:=by simpa[wi]using c2
   have hw:IntKind.i64.wrap (p.ln-e.fr)=p.ln-e.fr:=by rw[Ql]<;>omega
   by_cases c3:y.ki≠4/\e.fr≠y.fr
   ·simp[hr,Qm,c1,c2,jP,c3.1,c3.2];exact⟨h1,pO _ rfl (Idle.bool _) (hK _ (by simp[jO,hf,c1,c2,c3.1,c3.2]))⟩
   have fin:∀b,(decide (0<=e.ea)&&(decide (e.ea<=e.la)&&decide (e.la<=p.ln-e.fr)))=b->jO p e=b:=fun b hb=>by
    rw[jO,hf];simp only;rw[if_neg c1,if_neg (by simp[c2]),if_neg c3];exact hb
   have c3':y.ki=4\/(¬y.ki=4/\e.fr=y.fr):=by
    by_cases h:y.ki=4
    ·exact .inl h
    exact .inr ⟨h,by by_cases h':e.fr=y.fr;exact h';exact absurd ⟨h,h'⟩ c3⟩
   by_cases d1:0<=e.ea
   ·by_cases d2:e.ea<=e.la
    ·by_cases d3:e.la<=p.ln-e.fr
     ·obtain c|⟨c,c'⟩:=c3'
      ·simp[hr,Qm,c1,c2,jP,c,hw,d1,d2,d3];exact⟨h1,pO _ rfl (Idle.bool _) (hK _ (fin _ (by simp[d1,d2,d3])))⟩
      rw[<- c']at c2 h1;simp[hr,Qm,c1,c2,jP,c,<- c',hw,d1,d2,d3];exact⟨h1,pO _ rfl (Idle.bool _) (hK _ (fin _ (by simp[d1,d2,d3])))⟩
     obtain c|⟨c,c'⟩:=c3'
     ·simp[hr,Qm,c1,c2,jP,c,hw,d1,d2,d3];exact⟨h1,pO _ rfl (Idle.bool _) (hK _ (fin _ (by simp[d1,d2,d3])))⟩
     rw[<- c']at c2 h1;simp[hr,Qm,c1,c2,jP,c,<- c',hw,d1,d2,d3];exact⟨h1,pO _ rfl (Idle.bool _) (hK _ (fin _ (by simp[d1,d2,d3])))⟩
    obtain c|⟨c,c'⟩:=c3'
    ·simp[hr,Qm,c1,c2,jP,c,d1,d2];exact⟨h1,pO _ rfl (Idle.bool _) (hK _ (fin _ (by simp[d1,d2])))⟩
    rw[<- c']at c2 h1;simp[hr,Qm,c1,c2,jP,c,<- c',d1,d2];exact⟨h1,pO _ rfl (Idle.bool _) (hK _ (fin _ (by simp[d1,d2])))⟩
   obtain c|⟨c,c'⟩:=c3'
   ·simp[hr,Qm,c1,c2,jP,c,d1];exact⟨h1,pO _ rfl (Idle.bool _) (hK _ (fin _ (by simp[d1])))⟩
   rw[<- c']at c2 h1;simp[hr,Qm,c1,c2,jP,c,<- c',d1];exact⟨h1,pO _ rfl (Idle.bool _) (hK _ (fin _ (by simp[d1])))⟩
 simp[hr];exact pO _ rfl (Idle.bool _) (hK _ (by simp[jO,hf]))
open Go Go.Abs
def zY(p:Pl)(e:En)(a:Sp):Bool:=match Xk a.2 p.aN with
 |none=>false
 |some y=>decide (y.fr=e.fr)&&(decide (y.ki≠5)&&decide (y.ki≠4))
def NX(p:Pl)(e:En)(kB:List (Pi×AV))(b0:T5):AM:=bX p (mI p.aN) kB (b0++[[.ptr 3 0],Qd e])
def rdA{p:Pl}{e:En}{kB:List (Pi×AV)}{b0:T5}{K:So}{r:AV}{m':AM}(ex:T5)(hm:m'=bX p (mI p.aN) kB (b0++([.ptr 3 0]::Qd e::ex)))(hi:Idle r)(hK:K r (NX p e kB b0)):RdK (NX p e kB b0) K r m':=
 pO ex (by rw[hm];simp[NX,bX]) hi hK
def X6(p:Pl)(e:En)(a:Sp)(kB:List (Pi×AV))(b0:T5)(Y:YT)(K:So)(hK:K (.bool (!zY p e a)) (NX p e kB b0)):
  aB Tryz.prog aD Y 240 [.agg (Qe a),.ptr (b0.length+4) 0,.ptr (b0.length+5) 0] (NX p e kB b0) K:=by
 refine We (Xn adh (fun _ _ _=>.junk) zd ?_);obtain⟨r,hr,QO⟩:=Dj p a.2;simp[ahF,ahG,NX,bX,Qa,Qd,Qe];refine Ul ?_;obtain⟨n,y,hf,rfl⟩|⟨hf,rfl⟩:=QO
 ·by_cases c1:y.fr=e.fr
  ·by_cases c2:y.ki=5
   ·have:(!zY p e a)=true:=by simp[zY,hf,c1,c2]
    rw[this]at hK;simp[hr,Qm,c1,c2];exact rdA _ rfl (Idle.bool _) hK
   by_cases c3:y.ki=4
   ·have:(!zY p e a)=true:=by simp[zY,hf,c1,c2,c3]
    rw[this]at hK;simp[hr,Qm,c1,c2,c3];exact rdA _ rfl (Idle.bool _) hK
   have:(!zY p e a)=false:=by simp[zY,hf,c1,c2,c3]
   rw[this]at hK;have h':(y.ki==5||y.ki==4)=false:=by simp[c2,c3]
   simp[hr,Qm,c1,c2,c3];rw[h'];exact rdA _ rfl (Idle.bool _) hK
  have:(!zY p e a)=true:=by simp[zY,hf,c1]
  rw[this]at hK;have h':(y.fr !=e.fr||y.ki==5||y.ki==4)=true:=by simp[c1]
  simp[hr,Qm,c1];rw[h'];exact rdA _ rfl (Idle.bool _) hK
 have:(!zY p e a)=true:=by simp[zY,hf]
 rw[this]at hK;simp[hr];exact rdA _ rfl (Idle.bool _) hK
def jQ{α:Type}(b:α->Bool):List α->Nat->Int
 |[],_=> -1
 |x::r,i=>if b x=true then(i:Int)else jQ b r (i+1)
def xR{α:Type}(b:α->Bool):∀(l:List α)(i:Nat),(0<=jQ b l i<->l.any b=true)
 |[],i=>by simp[jQ]
 |x::r,i=>by
  rw[jQ];cases h:b x with
  |true=>simp[h]
  |false=>simp[h,xR b r (i+1)]
def asG(s n:Nat)(m0:AM)(R:Nat->Prop)(f:Nat->AV)(m:AM):Prop:=∃(i:Nat),f s=I i/\i<=n/\R i/\m=m0
def X7(p:Pl)(e:En)(L:List Sp)(hl:L.length<=8796093022208)(kB:List (Pi×AV))(b0:T5)(Y:YT)(K:So)(hK:K (I (jQ (fun a=>!zY p e a) L 0)) (NX p e kB b0)):
  aB Tryz.prog aD Y 262 [.sl .ro (L.map Qe),.fn 240 [] [.ptr (b0.length+4) 0,.ptr (b0.length+5) 0]] (NX p e kB b0) K:=by
 obtain⟨T,hT⟩:∃T,jQ (fun a=>!zY p e a) L 0=T:=⟨_,rfl⟩;rw[hT]at hK;refine Xn adp (fun _ _ _=>.gd false .junk) zd ?_;simp[ahU];refine Qk vL (asG 8 L.length (NX p e kB b0) fun i=>jQ (fun a=>!zY p e a) (L.drop i) i=T) (fun f _=>L.length-(numOf (f 8)).toNat) ?_ ?_
 ·exact⟨0,zd,zE,Nm hT,rfl⟩
 rintro f m ⟨i,h8,hi,hx,rfl⟩;rcases zzaa i L.length with ai|bn
 ·obtain⟨a,ha⟩:=aV ai;have ah:=Zx ha;have aa:(i:Int)<(L.length:Int):=zE
  have hw:=bO i zE;rw[Zb ha,jQ]at hx;simp[h8,ai,aa,ah,vL,EE];refine X6 p e a kB b0 Y _ ?_;cases hb:zY p e a with
  |false=>
   rw[hb]at hx;simp at hx;simp[h8,vL,EE,hx];exact hK
  |true=>
   rw[hb]at hx;simp at hx;simp[h8,vL,EE,hw];refine⟨aQ,⟨i+1,zd,zE,hx,rfl⟩,zE⟩
 have bQ:¬(i:Int)<(L.length:Int):=zE
 rw[zzal bn,jQ]at hx;simp[h8,bQ,zzbk.2 bn,vL,EE,hx];exact hK
def KY(p:Pl)(e:En)(L:List Sp)(hl:L.length<=8796093022208)(kB:List (Pi×AV))(b0:T5)(Y:YT)(K:So)(hK:K (.bool (L.any fun a=>!zY p e a)) (NX p e kB b0)):
  aB Tryz.prog aD Y 241 [.sl .ro (L.map Qe),.fn 240 [] [.ptr (b0.length+4) 0,.ptr (b0.length+5) 0]] (NX p e kB b0) K:=by
 have al9:=xR (fun a=>!zY p e a) L 0;refine Xn adi (fun _ _ _=>.gd false .junk) zd ?_;simp[ahH];refine X7 p e L hl kB b0 Y _ ?_
 have:decide (0<=jQ (fun a=>!zY p e a) L 0)=L.any fun a=>!zY p e a:=by
  rw[zzcz,decide_eq_true_eq];exact al9
 simp[ahI,this];simpa using hK
def mB(p:Pl)(e:En):Bool:=Ku 1 (p.rg-1) none (e.al.map fun x=>x.1)&&(!(decide (kindOf p e.it=4)&&decide (e.al≠[]))&&!(e.al.any fun a=>!zY p e a))
def Bl(p:Pl)(e:En):UV:=fun _ f _=>if f=238 then .bool (Ku 1 (p.rg-1) none (e.al.map fun x=>x.1))else .gd false .junk
def ama(p:Pl)(e:En)(hl:e.al.length<=8796093022208)(NW:1<=p.rg/\p.rg<=8)(kB:List (Pi×AV))(bx:T5)(Y:YT)(K:So)(hK:∀b,mB p e=b->K (.bool b) (bX p (mI p.aN) kB bx)):
  aB Tryz.prog aD Y 209 [.ptr 3 0,.agg (Qd e)] (bX p (mI p.aN) kB bx) K:=by
 have Gq:=QK e.al 1 (p.rg-1) hl;refine We (Xn ac1 (Bl p e) zd ?_);obtain⟨r,hr,QO⟩:=Dj p e.it;have ru:IntKind.i64.wrap (p.rg-1)=p.rg-1:=by rw[Ql]<;>omega
 cases h1:Ku 1 (p.rg-1) none (e.al.map fun x=>x.1)with
 |false=>
  rw[h1]at Gq;simp[Ar,oC,bX,Qa,Qd,ru,Bl,h1];exact⟨Gq,pO _ rfl (Idle.bool _) (hK _ (by simp[mB,h1]))⟩
 |true=>
  rw[h1]at Gq;have tl:∀(E:QQ),True:=fun _=>trivial;have Sh:kindOf p e.it=4->e.al≠[]->mB p e=false:=fun h h'=>by simp[mB,h,h']
  have iF:¬(kindOf p e.it=4/\e.al≠[])->mB p e=!(e.al.any fun a=>!zY p e a):=fun h=>by
   have:(decide (kindOf p e.it=4)&&decide (e.al≠[]))=false:=by
    rw[Bool.eq_false_iff];intro h';simp at h';exact h h'
   rw[mB,h1,this];rfl
  obtain⟨n,y,hf,rfl⟩|⟨hf,rfl⟩:=QO
  ·have hkd:kindOf p e.it=y.ki:=by simp[kindOf,hf]
   by_cases c1:y.ki=4
   ·by_cases c2:e.al=[]
    ·have PC:=iF (by simp[c2]);have c2l:¬0<e.al.length:=by simp[c2]
     simp[Ar,oC,bX,Qa,Qd,ru,Bl,h1,hr,Qm,c1,c2];rw[c2]at Gq;refine⟨Gq,?_⟩;have:=KY p e [] zd kB bx Y;simp only[NX,bX,Qa,Qd,c2]at this;refine this _ ?_;simp[oC];exact pO _ rfl (Idle.bool _) (hK _ (by rw[PC,c2];rfl))
    have c2l:0<e.al.length:=zzdd.2 c2;simp[Ar,oC,bX,Qa,Qd,ru,Bl,h1,hr,Qm,c1,c2l];exact⟨Gq,pO _ rfl (Idle.bool _) (hK _ (Sh (by rw[hkd,c1]) c2))⟩
   have PC:=iF (by rw[hkd];exact fun h=>c1 h.1);simp[Ar,oC,bX,Qa,Qd,ru,Bl,h1,hr,Qm,c1];refine⟨Gq,?_⟩;have:=KY p e e.al hl kB bx Y;simp only[NX,bX,Qa,Qd]at this;refine this _ ?_;simp[oC];exact pO _ rfl (Idle.bool _) (hK _ (by rw[PC]))
  have PC:=iF (by simp[kindOf,hf]);simp[Ar,oC,bX,Qa,Qd,ru,Bl,h1,hr];refine⟨Gq,?_⟩;have:=KY p e e.al hl kB bx Y;simp only[NX,bX,Qa,Qd]at this;refine this _ ?_;simp[oC];exact pO _ rfl (Idle.bool _) (hK _ (by rw[PC]))
open Go Go.Abs
def xS(x a:Sp):Bool:=x.1==a.1&&x.2==a.2
def X8(x:Sp)(L:List Sp):L.any (xS x)=decide (x∈L):=by
 rw[zzcz];simp only[zzbr,decide_eq_true_eq,xS,zzac,beq_iff_eq];constructor
 ·rintro⟨a,h,h1,h2⟩;have:x=a:=Prod.ext h1 h2;rw[this];exact h
 exact fun h=>⟨x,h,rfl,rfl⟩
def X9(x:Sp)(L:List Sp)(hl:L.length<=8796093022208):Pure Tryz.prog aD 263 [.sl .ro (L.map Qe),.agg (Qe x)] (I (jQ (xS x) L 0)):=by
 obtain⟨T,hT⟩:∃T,jQ (xS x) L 0=T:=⟨_,rfl⟩;rw[hT];refine Qo adq (fun _ _ _=>.junk) zd ?_;simp[ahV,Qe];refine Qk Cj (asG 8 L.length ⟨[[I x.1,I x.2]],[],fun _=>.gone,0⟩ fun i=>jQ (xS x) (L.drop i) i=T) (fun f _=>L.length-(numOf (f 8)).toNat) ?_ ?_
 ·exact⟨0,zd,zE,Nm hT,rfl⟩
 rintro f m ⟨i,h8,hi,hx,rfl⟩;rcases zzaa i L.length with ai|bn
 ·obtain⟨a,ha⟩:=aV ai;have ah:Qj (L.map Qe) i=Qe a:=Zx ha;have aiK:Qj (L.map fun x=>[I x.1,I x.2]) i=Qe a:=ah;have aa:(i:Int)<(L.length:Int):=zE
  have hw:=bO i zE;rw[Zb ha,jQ]at hx;cases hb:xS x a with
  |false=>
   rw[hb]at hx;simp at hx;simp only[xS]at hb;simp[h8,ai,aa,ah,aiK,Cj,Nd,hw,Qe,hb];refine⟨aQ,⟨i+1,zd,zE,hx,rfl⟩,zE⟩
  |true=>
   rw[hb]at hx;simp at hx;simp only[xS]at hb;subst hx;simp[h8,ai,aa,ah,aiK,Cj,Nd,Qe,hb]
 have bQ:¬(i:Int)<(L.length:Int):=zE
 rw[zzal bn,jQ]at hx;simp[h8,bQ,zzbk.2 bn,Cj,Nd,hx]
def Gr(x:Sp)(L:List Sp)(hl:L.length<=8796093022208):Pure Tryz.prog aD 242 [.sl .ro (L.map Qe),.agg (Qe x)] (.bool (decide (x∈L))):=by
 have k:=X9 x L hl;have al9:=xR (xS x) L 0;refine Qo adj (fun _ _ _=>I (jQ (xS x) L 0)) zd ?_
 have:decide (0<=jQ (xS x) L 0)=decide (x∈L):=by
  rw[<- X8,zzcz,decide_eq_true_eq];exact al9
 simp[ahJ,ahK,this,Qe];simpa[Qe]using k
def amb(p:Pl)(id:Int):∃r,Xi [id] (mK p.bks) 0=r/\((∃n x,Gp id p.bks=some x/\r=some (n,.agg (Xj x)))\/(Gp id p.bks=none/\r=none)):=by
 obtain⟨g1,g2⟩:=asF id p.bks 0;cases hf:Gp id p.bks with
 |none=>exact⟨_,rfl,.inr ⟨rfl,g1 hf⟩⟩
 |some x=>
  obtain⟨n,g⟩:=g2 x hf;exact⟨_,rfl,.inl ⟨n,x,rfl,g⟩⟩
def QS(p:Pl)(e:En):Bool:=if e.bo=0 then true else match Gp e.bo p.bks with
 |none=>false
 |some x=>if x.re=0 then decide (x.it=e.it)else decide ((x.re,x.it)∈e.al)
def QT(p:Pl)(e:En)(hl:e.al.length<=8796093022208)(kI:List (Pi×AV))(bx:T5)(Y:YT)(K:So)(hK:∀b,QS p e=b->K (.bool b) (bX p kI (mK p.bks) bx)):
  aB Tryz.prog aD Y 210 [.ptr 3 0,.agg (Qd e)] (bX p kI (mK p.bks) bx) K:=by
 obtain⟨r,hr,QO⟩:=amb p e.bo;by_cases h0:e.bo=0
 ·refine We (Xn Cg (fun _ _ _=>.junk) zd ?_);simp[M4,M5,bX,Qa,Qd,h0];exact pO _ rfl (Idle.bool _) (hK _ (by simp[QS,h0]))
 obtain⟨n,x,hf,rfl⟩|⟨hf,rfl⟩:=QO
 ·have k:=Gr (x.re,x.it) e.al hl;refine We (Xn Cg (fun _ _ _=>.bool (decide ((x.re,x.it)∈e.al))) zd ?_);simp[M4,M5,bX,Qa,Qd,h0];refine Ul ?_;by_cases c1:x.re=0
  ·simp[hr,Xj,c1];exact pO _ rfl (Idle.bool _) (hK _ (by simp only[QS,h0,hf,c1];rw[zzcz];simp))
  simp[hr,Xj,c1];refine⟨by simpa[Qe]using k,pO _ rfl (Idle.bool _) (hK _ (by simp[QS,h0,hf,c1]))⟩
 refine We (Xn Cg (fun _ _ _=>.junk) zd ?_);simp[M4,M5,bX,Qa,Qd,h0];refine Ul ?_;simp[hr];exact pO _ rfl (Idle.bool _) (hK _ (by simp[QS,h0,hf]))
def zZ(p:Pl)(seen:Pi)(e:En):Bool:=wi e.id 1 1000000&&(!decide (e.id∈seen)&&(jO p e&&(mB p e&&QS p e)))
def Gs(p:Pl):Pi->List En->Bool
 |_,[]=>true
 |seen,e::r=>zZ p seen e&&Gs p (seen++[e.id]) r
def xU(p:Pl):Bool:=decide (p.ens.length<=4000)&&Gs p [] p.ens
def mS(l:Pi):List (Pi×AV):=l.map fun n=>([n],.bool true)
def asH(k:Int):∀(l:Pi)(i:Nat),(k∈l->∃n,Xi [k] (mS l) i=some (n,.bool true))/\(¬k∈l->Xi [k] (mS l) i=none)
 |[],i=>⟨fun h=>(by cases h),fun _=>rfl⟩
 |x::r,i=>by
  have ih:=asH k r (i+1);simp only[mS,zzaz,Xi]at ih |-
  by_cases h:x=k
  ·subst h;simp
  have h':¬k=x:=fun e=>h e.symm;rw[if_neg (by intro e;cases e;exact h rfl)];simp only[zzao,h',false_or];exact ih
def xV:UV:=fun _ f l=>if f=204 then(match l with|[.int _ n,.int _ lo,.int _ up]=>.bool (wi n lo up)|_=>.junk)else .gd false .junk
def amc(p:Pl)(f:Nat->AV)(m:AM):Prop:=∃(i:Nat)(bx:T5),f 20=I i/\i<=p.ens.length/\Gs p ((p.ens.take i).map fun e=>e.id) (p.ens.drop i)=Gs p [] p.ens/\f 3=.mp 4/\m=bX p (mI p.aN) (mK p.bks) ([.aJ 0 (mS ((p.ens.take i).map fun e=>e.id))]::bx)
def Qdg{p:Pl}{i:Nat}{e:En}(h:p.ens[i]?=some e):Qj (p.ens.map Qd) i=Qd e:=Qu (by simp[h])
def QU(p:Pl)(hl:p.ens.length<=1000000000)(fR:∀e∈p.ens,e.al.length<=8796093022208)(X5:xP p.aN=true)(NW:1<=p.rg/\p.rg<=8)(dG:1<=p.ln/\p.ln<=100000000)(Y:YT)(K:So)(hK:∀b,xU p=b->K (.bool b) (bX p (mI p.aN) (mK p.bks) [])):
  aB Tryz.prog aD Y 156 [.ptr 3 0] (bX p (mI p.aN) (mK p.bks) []) K:=by
 refine We (Xn acm xV zd ?_);by_cases h0:p.ens.length<=4000
 ·have zA:¬(4000:Int)<(p.ens.length:Int):=zE
  simp[MN,bX,Qa,h0,zA];refine Qk qB (amc p) (fun f _=>p.ens.length-(numOf (f 20)).toNat) ?_ ?_
  ·exact⟨0,[],zd,zE,zd,zd,by simp[bX,Qa,mS]⟩
  rintro f m ⟨i,bx,h20,hi,ha,h3,rfl⟩;rcases zzaa i p.ens.length with ai|bn
  ·obtain⟨e,he⟩:=aV ai;have ah:=Qdg he;have aa:(i:Int)<(p.ens.length:Int):=zE
   have hw:=bO i zE;have bA:(p.ens.take (i+1)).map (fun e=>e.id)=(p.ens.take i).map (fun e=>e.id)++[e.id]:=by simp[zzax,he]
   rw[Zb he,Gs,<- bA]at ha;obtain⟨S,hS⟩:∃S,(p.ens.take i).map (fun e=>e.id)=S:=⟨_,rfl⟩;rw[hS]at ha bA |-
   have h1:=Ua e.id 1 1000000;have hae:=fR e (zzae he);obtain⟨s1,s2⟩:=asH e.id S 0;have bad:zZ p S e=false->xU p=false:=fun h=>by rw[h]at ha;simp[xU,<- ha]
   cases e1:wi e.id 1 1000000 with
   |false=>
    rw[e1]at h1;simp[h20,h3,ai,aa,ah,Qd,bX,Qa,xV,e1,qB,sg];exact⟨h1,pO _ rfl (Idle.bool _) (hK _ (bad (by simp[zZ,e1])))⟩
   |true=>
    rw[e1]at h1;by_cases e2:e.id∈S
    ·obtain⟨n,s1⟩:=s1 e2;simp[h20,h3,ai,aa,ah,Qd,bX,Qa,xV,e1,s1,qB,sg];exact⟨h1,pO _ rfl (Idle.bool _) (hK _ (bad (by simp[zZ,e1,e2])))⟩
    have s2:=s2 e2;simp[h20,h3,ai,aa,ah,Qd,bX,Qa,xV,e1,s2,qB];refine⟨h1,al8 p e (mK p.bks) ([.aJ 0 (mS S)]::(bx++[Qd e])) X5 dG Y _ fun b hb=>?_⟩;cases b with
    |false=>
     simp[sg];exact pO _ rfl (Idle.bool _) (hK _ (bad (by simp[zZ,e1,e2,hb])))
    |true=>
     simp[bX,Qa,Qd,xV];refine ama p e hae NW (mK p.bks) ([.aJ 0 (mS S)]::(bx++[Qd e])) Y _ fun b fV=>?_;cases b with
     |false=>
      simp[sg];exact pO _ rfl (Idle.bool _) (hK _ (bad (by simp[zZ,e1,e2,hb,fV])))
     |true=>
      simp[bX,Qa,Qd,xV];refine QT p e hae (mI p.aN) ([.aJ 0 (mS S)]::(bx++[Qd e])) Y _ fun b hb3=>?_;cases b with
      |false=>
       simp[sg];exact pO _ rfl (Idle.bool _) (hK _ (bad (by simp[zZ,e1,e2,hb,fV,hb3])))
      |true=>
       have bU:zZ p S e=true:=by simp[zZ,e1,e2,hb,fV,hb3]
       rw[bU,zzds]at ha;simp[h20,h3,bX,Qa,Qd,xV,s2,hw,qB];refine⟨aQ,⟨i+1,bx++[Qd e],zd,zE,ha,by simp[h3],?_⟩,zE⟩
       ·rw[bA];simp[bX,Qa,Qd,mS]
  have bQ:¬(i:Int)<(p.ens.length:Int):=zE
  rw[zzal bn]at ha;have ha:Gs p [] p.ens=true:=by rw[<- ha];rfl
  simp[h20,bQ,zzbk.2 bn,qB,sg,bX,Qa];exact pO _ rfl (Idle.bool _) (hK _ (by simp[xU,h0,ha]))
 have zA:(4000:Int)<(p.ens.length:Int):=zE
 simp[MN,sg,bX,Qa,h0,zA];exact pO [] zd (Idle.bool _) (hK _ (by simp[xU,h0]))
open Go Go.Abs
def rE(p:Pl):Bool:=Jo p&&(Sr p&&(jN p&&(xU p&&Qdo p)))
def pQ(p:Pl):UV:=fun _ f _=>if f=153 then .bool (Jo p)else if f=157 then .bool (Qdo p)else .gd false .junk
def PlS(p:Pl):Prop:=p.sh.length<=1000000000/\p.aN.length<=1000000000/\p.ens.length<=1000000000/\p.bks.length<=8796093022208/\p.cls.length<=1000000000/\∀e∈p.ens,e.al.length<=8796093022208
def Wv(p:Pl)(h:PlS p):Pure Tryz.prog aD 95 [.agg (Qa p)] (.bool (rE p)):=by
 obtain⟨l1,l2,l3,l4,l5,l6⟩:=h;have k44:=aen p l1;have k48:=QL p l5;refine Qo akD (pQ p) zd ?_;cases e1:Jo p with
 |false=>
  rw[e1]at k44;simp[akC,O1,Qa,pQ,rE,e1];simpa[Qa]using k44
 |true=>
  rw[e1]at k44
  have hs:(1<=p.rg/\p.rg<=8)/\(1<=p.ln/\p.ln<=100000000):=by
   simp[Jo,wi]at e1;omega
  simp[akC,Qa,pQ,rE,e1];refine⟨by simpa[Qa]using k44,?_⟩;refine aet p l2 Y0 _ (fun e2=>?_) (fun e2 kI=>?_)
  ·simp[bX,Qa,pQ,e2];refine aeu p l4 hs.1 Y0 _ (fun e3=>?_) (fun e3 kB=>?_)
   ·simp[bX,Qa,pQ,e3]
    have X5:xP p.aN=true:=by
     simp[Sr]at e2;exact e2.2.2.1
    refine QU p l3 l6 X5 hs.1 hs.2 Y0 _ fun b e4=>?_;cases b with
    |false=>simp[O1,bX,Qa,pQ,e4]
    |true=>
     simp[O1,bX,Qa,pQ,e4];simpa[Qa]using k48
   simp[O1,bX,Qa,pQ,e3]
  simp[O1,bX,Qa,pQ,e2]
