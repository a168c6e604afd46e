import Derived.Test.YthjppoincojfkaaGreatDoorRBSpG
import Derived.Test.YthjppoincojfkaaGreatDoorRBTcA
set_option linter.all false
set_option maxRecDepth 100000
set_option maxHeartbeats 64000000
namespace Go.Proofs.YthjppoincojfkaaGreatDoor
open Go Go.Abs
def Yx(n lo up:Int):Pure Tryz.prog aD 204 [I n,I lo,I up] (.bool (wi n lo up)):=by
 refine Qp ac0 (fun _ _ _=>.junk) zd ?_;by_cases h1:lo<=n<;>by_cases h2:n<=up<;>simp[ahs,aht,wi,h1,h2]
def aiM(e:It):Pure Tryz.prog aD 37 [.agg (Qh e)] (I e.id):=by
 refine Qp SL (fun _ _ _=>.junk) zd ?_;simp[ajC,Qh,ajD]
def xA(e:Bk):Pure Tryz.prog aD 207 [.agg (Xj e)] (I e.id):=by
 refine Qp ac3 (fun _ _ _=>.junk) zd ?_;simp[ahu,Xj,ahv]
def xB(e:Sp):Pure Tryz.prog aD 239 [.agg (Qf e)] (I e.1):=by
 refine Qp adk (fun _ _ _=>.junk) zd ?_;simp[ahH,Qf,ahI]
def Sn(k:Int):Option Int->Bool
 |some q=>decide (k<=q)
 |none=>false
def Kw(lo up:Int):Option Int->Pi->Bool
 |_,[]=>true
 |pr,k::r=>if k<lo\/up<k\/Sn k pr=true then false else Kw lo up (some k) r
def Ip(ks:Pi):Nat->Option Int
 |0=>none
 |i+1=>ks[i]?
def Qec{ks:Pi}{i:Nat}{k:Int}(h:ks[i]?=some k):Ip ks (i+1)=some k:=h
def keyOf:P2->Int
 |[.agg (.int _ n::_)]=>n
 |_=>0
def iw:UV:=fun _ _ l=>I (keyOf l)
def rj{lo up:Int}{ks:Pi}{i:Nat}{k:Int}(h:ks[i]?=some k):Kw lo up (Ip ks i) (ks.drop i)=if k<lo\/up<k\/Sn k (Ip ks i)=true then false else Kw lo up (Ip ks (i+1)) (ks.drop (i+1)):=by
 obtain⟨hi,hk⟩:=zza.1 h;rw[zzah hi,hk,Kw,Qec h]
def NW(s n:Nat)(R:Nat->Prop)(f:Nat->AV)(m:AM):Prop:=∃(i:Nat)(bx:T5),f s=I i/\i<=n/\R i/\m=⟨bx,[],fun _=>.gone,0⟩
def QH(L:List It)(lo up:Int)(hl:L.length<=8796093022208):Pure Tryz.prog aD 205 [.sl .ro (L.map Qh),I lo,I up,.fn 37 [] []] (.bool (Kw lo up none (L.map fun x=>x.id))):=by
 obtain⟨T,hT⟩:∃T,Kw lo up none (L.map fun x=>x.id)=T:=⟨_,rfl⟩;rw[hT];refine Qp ac1 iw zd ?_;simp[TX];refine Qk mO (NW 14 L.length fun i=>Kw lo up (Ip (L.map fun x=>x.id) i) ((L.map fun x=>x.id).drop i)=T) (fun f _=>L.length-(numOf (f 14)).toNat) ?_ ?_
 ·exact⟨0,_,zd,zE,by simpa[Ip]using hT,rfl⟩
 rintro f m ⟨i,bx,tW,hi,ha,rfl⟩;rcases zzaa i L.length with ai|bn
 ·obtain⟨x,hx⟩:=aV ai;have ah:Qj (L.map Qh) i=Qh x:=Qu (by simp[hx]);have aa:(i:Int)<(L.length:Int):=zE
  have hw:=bO i zE;have hk:=aiM x;have XX:(L.map fun x=>x.id)[i]?=some x.id:=by simp[hx]
  rw[rj XX]at ha;by_cases c1:x.id<lo
  ·rw[if_pos (.inl c1)]at ha;subst ha;simp[tW,ai,aa,ah,Qh,iw,keyOf,c1,mO,vr];simpa[Qh]using hk
  by_cases c2:up<x.id
  ·rw[if_pos (.inr (.inl c2))]at ha;subst ha;simp[tW,ai,aa,ah,Qh,iw,keyOf,c1,c2,mO,vr];simpa[Qh]using hk
  cases i with
  |zero=>
   rw[if_neg (by simp[c1,c2,Ip,Sn])]at ha;have dU:IntKind.i64.wrap 1=1:=by decide
   simp[tW,ai,aa,ah,Qh,iw,keyOf,c1,c2,mO,vr,hw,dU];refine⟨by simpa[Qh]using hk,aQ,⟨1,_,zd,zE,ha,rfl⟩,zE⟩
  |succ j=>
   have eF:j<L.length:=zE
   have sL:(j:Int)<(L.length:Int):=zE
   obtain⟨y,hy⟩:=aV eF;have sM:Qj (L.map Qh) j=Qh y:=Qu (by simp[hy]);have hky:=aiM y;have sN:Ip (L.map fun x=>x.id) (j+1)=some y.id:=Qec (by simp[hy]);have Iq:IntKind.i64.wrap (((j+1:Nat):Int)-1)=(j:Int):=by rw[Ql]<;>omega
   have Gb:IntKind.i64.wrap ((j:Int)+1-1)=(j:Int):=by rw[Ql]<;>omega
   have rf:IntKind.i64.wrap (j:Int)=(j:Int):=by rw[Ql]<;>omega
   have dX:(0:Int)<(j:Int)+1:=zE
   have hj0:(0:Int)<=(j:Int):=zE
   have Gd:(0:Int)<=(j:Int)+1:=zE
   have NV:¬(j:Int)<0:=zE
   have Ge:(j:Int)+1<(L.length:Int):=zE
   have fE:IntKind.i64.wrap ((j:Int)+1+1)=((j+1+1:Nat):Int):=by rw[Ql]<;>omega
   by_cases c3:x.id<=y.id
   ·rw[if_pos (.inr (.inr (by rw[sN];simp[Sn,c3])))]at ha;subst ha;simp[tW,ai,aa,Ge,dX,hj0,Gd,NV,Iq,Gb,rf,eF,sL,ah,sM,Qh,iw,keyOf,c1,c2,c3,mO,vr];exact⟨by simpa[Qh]using hk,by simpa[Qh]using hky⟩
   rw[if_neg (by rw[sN];simp[c1,c2,c3,Sn])]at ha;simp[tW,ai,aa,Ge,dX,hj0,Gd,NV,Iq,Gb,rf,eF,sL,ah,sM,Qh,iw,keyOf,c1,c2,c3,mO,vr,fE];refine⟨by simpa[Qh]using hk,by simpa[Qh]using hky,aQ,⟨j+1+1,_,zd,zE,ha,rfl⟩,zE⟩
 obtain rfl:i=L.length:=zE
 rw[zzal zd]at ha;have ha:true=T:=by rw[<- ha];simp[Kw]
 subst ha;simp[tW,mO,vr]
def QI(L:List Bk)(lo up:Int)(hl:L.length<=8796093022208):Pure Tryz.prog aD 206 [.sl .ro (L.map Xj),I lo,I up,.fn 207 [] []] (.bool (Kw lo up none (L.map fun x=>x.id))):=by
 obtain⟨T,hT⟩:∃T,Kw lo up none (L.map fun x=>x.id)=T:=⟨_,rfl⟩;rw[hT];refine Qp ac2 iw zd ?_;simp[TY];refine Qk mP (NW 14 L.length fun i=>Kw lo up (Ip (L.map fun x=>x.id) i) ((L.map fun x=>x.id).drop i)=T) (fun f _=>L.length-(numOf (f 14)).toNat) ?_ ?_
 ·exact⟨0,_,zd,zE,by simpa[Ip]using hT,rfl⟩
 rintro f m ⟨i,bx,tW,hi,ha,rfl⟩;rcases zzaa i L.length with ai|bn
 ·obtain⟨x,hx⟩:=aV ai;have ah:Qj (L.map Xj) i=Xj x:=Qu (by simp[hx]);have aa:(i:Int)<(L.length:Int):=zE
  have hw:=bO i zE;have hk:=xA x;have XX:(L.map fun x=>x.id)[i]?=some x.id:=by simp[hx]
  rw[rj XX]at ha;by_cases c1:x.id<lo
  ·rw[if_pos (.inl c1)]at ha;subst ha;simp[tW,ai,aa,ah,Xj,iw,keyOf,c1,mP,vu];simpa[Xj]using hk
  by_cases c2:up<x.id
  ·rw[if_pos (.inr (.inl c2))]at ha;subst ha;simp[tW,ai,aa,ah,Xj,iw,keyOf,c1,c2,mP,vu];simpa[Xj]using hk
  cases i with
  |zero=>
   rw[if_neg (by simp[c1,c2,Ip,Sn])]at ha;have dU:IntKind.i64.wrap 1=1:=by decide
   simp[tW,ai,aa,ah,Xj,iw,keyOf,c1,c2,mP,vu,hw,dU];refine⟨by simpa[Xj]using hk,aQ,⟨1,_,zd,zE,ha,rfl⟩,zE⟩
  |succ j=>
   have eF:j<L.length:=zE
   have sL:(j:Int)<(L.length:Int):=zE
   obtain⟨y,hy⟩:=aV eF;have sM:Qj (L.map Xj) j=Xj y:=Qu (by simp[hy]);have hky:=xA y;have sN:Ip (L.map fun x=>x.id) (j+1)=some y.id:=Qec (by simp[hy]);have Iq:IntKind.i64.wrap (((j+1:Nat):Int)-1)=(j:Int):=by rw[Ql]<;>omega
   have Gb:IntKind.i64.wrap ((j:Int)+1-1)=(j:Int):=by rw[Ql]<;>omega
   have rf:IntKind.i64.wrap (j:Int)=(j:Int):=by rw[Ql]<;>omega
   have dX:(0:Int)<(j:Int)+1:=zE
   have hj0:(0:Int)<=(j:Int):=zE
   have Gd:(0:Int)<=(j:Int)+1:=zE
   have NV:¬(j:Int)<0:=zE
   have Ge:(j:Int)+1<(L.length:Int):=zE
   have fE:IntKind.i64.wrap ((j:Int)+1+1)=((j+1+1:Nat):Int):=by rw[Ql]<;>omega
   by_cases c3:x.id<=y.id
   ·rw[if_pos (.inr (.inr (by rw[sN];simp[Sn,c3])))]at ha;subst ha;simp[tW,ai,aa,Ge,dX,hj0,Gd,NV,Iq,Gb,rf,eF,sL,ah,sM,Xj,iw,keyOf,c1,c2,c3,mP,vu];exact⟨by simpa[Xj]using hk,by simpa[Xj]using hky⟩
   rw[if_neg (by rw[sN];simp[c1,c2,c3,Sn])]at ha;simp[tW,ai,aa,Ge,dX,hj0,Gd,NV,Iq,Gb,rf,eF,sL,ah,sM,Xj,iw,keyOf,c1,c2,c3,mP,vu,fE];refine⟨by simpa[Xj]using hk,by simpa[Xj]using hky,aQ,⟨j+1+1,_,zd,zE,ha,rfl⟩,zE⟩
 obtain rfl:i=L.length:=zE
 rw[zzal zd]at ha;have ha:true=T:=by rw[<- ha];simp[Kw]
 subst ha;simp[tW,mP,vu]
def QJ(L:List Sp)(lo up:Int)(hl:L.length<=8796093022208):Pure Tryz.prog aD 238 [.sl .ro (L.map Qf),I lo,I up,.fn 239 [] []] (.bool (Kw lo up none (L.map fun x=>x.1))):=by
 obtain⟨T,hT⟩:∃T,Kw lo up none (L.map fun x=>x.1)=T:=⟨_,rfl⟩;rw[hT];refine Qp adj iw zd ?_;simp[T8];refine Qk mQ (NW 14 L.length fun i=>Kw lo up (Ip (L.map fun x=>x.1) i) ((L.map fun x=>x.1).drop i)=T) (fun f _=>L.length-(numOf (f 14)).toNat) ?_ ?_
 ·exact⟨0,_,zd,zE,by simpa[Ip]using hT,rfl⟩
 rintro f m ⟨i,bx,tW,hi,ha,rfl⟩;rcases zzaa i L.length with ai|bn
 ·obtain⟨x,hx⟩:=aV ai;have ah:Qj (L.map Qf) i=Qf x:=Qu (by simp[hx]);have aa:(i:Int)<(L.length:Int):=zE
  have hw:=bO i zE;have hk:=xB x;have XX:(L.map fun x=>x.1)[i]?=some x.1:=by simp[hx]
  rw[rj XX]at ha;by_cases c1:x.1<lo
  ·rw[if_pos (.inl c1)]at ha;subst ha;simp[tW,ai,aa,ah,Qf,iw,keyOf,c1,mQ,vz];simpa[Qf]using hk
  by_cases c2:up<x.1
  ·rw[if_pos (.inr (.inl c2))]at ha;subst ha;simp[tW,ai,aa,ah,Qf,iw,keyOf,c1,c2,mQ,vz];simpa[Qf]using hk
  cases i with
  |zero=>
   rw[if_neg (by simp[c1,c2,Ip,Sn])]at ha;have dU:IntKind.i64.wrap 1=1:=by decide
   simp[tW,ai,aa,ah,Qf,iw,keyOf,c1,c2,mQ,vz,hw,dU];refine⟨by simpa[Qf]using hk,aQ,⟨1,_,zd,zE,ha,rfl⟩,zE⟩
  |succ j=>
   have eF:j<L.length:=zE
   have sL:(j:Int)<(L.length:Int):=zE
   obtain⟨y,hy⟩:=aV eF;have sM:Qj (L.map Qf) j=Qf y:=Qu (by simp[hy]);have hky:=xB y;have sN:Ip (L.map fun x=>x.1) (j+1)=some y.1:=Qec (by simp[hy]);have Iq:IntKind.i64.wrap (((j+1:Nat):Int)-1)=(j:Int):=by rw[Ql]<;>omega
   have Gb:IntKind.i64.wrap ((j:Int)+1-1)=(j:Int):=by rw[Ql]<;>omega
   have rf:IntKind.i64.wrap (j:Int)=(j:Int):=by rw[Ql]<;>omega
   have dX:(0:Int)<(j:Int)+1:=zE
   have hj0:(0:Int)<=(j:Int):=zE
   have Gd:(0:Int)<=(j:Int)+1:=zE
   have NV:¬(j:Int)<0:=zE
   have Ge:(j:Int)+1<(L.length:Int):=zE
   have fE:IntKind.i64.wrap ((j:Int)+1+1)=((j+1+1:Nat):Int):=by rw[Ql]<;>omega
   by_cases c3:x.1<=y.1
   ·rw[if_pos (.inr (.inr (by rw[sN];simp[Sn,c3])))]at ha;subst ha;simp[tW,ai,aa,Ge,dX,hj0,Gd,NV,Iq,Gb,rf,eF,sL,ah,sM,Qf,iw,keyOf,c1,c2,c3,mQ,vz];exact⟨by simpa[Qf]using hk,by simpa[Qf]using hky⟩
   rw[if_neg (by rw[sN];simp[c1,c2,c3,Sn])]at ha;simp[tW,ai,aa,Ge,dX,hj0,Gd,NV,Iq,Gb,rf,eF,sL,ah,sM,Qf,iw,keyOf,c1,c2,c3,mQ,vz,fE];refine⟨by simpa[Qf]using hk,by simpa[Qf]using hky,aQ,⟨j+1+1,_,zd,zE,ha,rfl⟩,zE⟩
 obtain rfl:i=L.length:=zE
 rw[zzal zd]at ha;have ha:true=T:=by rw[<- ha];simp[Kw]
 subst ha;simp[tW,mQ,vz]
def Jo(p:Pl):Bool:=wi p.ch 0 39&&(Vd p.nu p.de&&(Yi p.of p.sh&&(wi p.ep 0 9000000000&&(wi p.rg 1 8&&wi p.ln 1 100000000))))
def xC(p:Pl):UV:=fun _ f l=>
 if f=132 then .bool (Vd p.nu p.de)else if f=133 then .bool (Yi p.of p.sh)else(match l with|[.int _ n,.int _ lo,.int _ up]=>.bool (wi n lo up)|_=>.junk)
def aeq(p:Pl)(fu:p.sh.length<=1000000000):Pure Tryz.prog aD 153 [.ep (Qa p++[.junk,.junk]) 0] (.bool (Jo p)):=by
 have h1:=Yx p.ch 0 39;have h2:=Ws p.nu p.de;have h3:=jH p.of p.sh fu;have h4:=Yx p.ep 0 9000000000;have h5:=Yx p.rg 1 8;have h6:=Yx p.ln 1 100000000;refine Qp acn (xC p) zd ?_;cases e1:wi p.ch 0 39 with
 |false=>rw[e1]at h1;simp[vi,vj,Qa,xC,Jo,e1];exact h1
 |true=>
  rw[e1]at h1;cases e2:Vd p.nu p.de with
  |false=>rw[e2]at h2;simp[vi,vj,Qa,xC,Jo,e1,e2];exact⟨h1,h2⟩
  |true=>
   rw[e2]at h2;cases e3:Yi p.of p.sh with
   |false=>rw[e3]at h3;simp[vi,vj,Qa,xC,Jo,e1,e2,e3];exact⟨h1,h2,h3⟩
   |true=>
    rw[e3]at h3;cases e4:wi p.ep 0 9000000000 with
    |false=>rw[e4]at h4;simp[vi,vj,Qa,xC,Jo,e1,e2,e3,e4];exact⟨h1,h2,h3,h4⟩
    |true=>
     rw[e4]at h4;cases e5:wi p.rg 1 8 with
     |false=>rw[e5]at h5;simp[vi,vj,Qa,xC,Jo,e1,e2,e3,e4,e5];exact⟨h1,h2,h3,h4,h5⟩
     |true=>rw[e5]at h5;simp[vi,vj,Qa,xC,Jo,e1,e2,e3,e4,e5];exact⟨h1,h2,h3,h4,h5,h6⟩
def xD:List Cl->Bool
 |[]=>true
 |c::r=>Xu c&&xD r
def Qbs(p:Pl):Bool:=decide (p.cls.length<=400)&&xD p.cls
def Bc:UV:=fun _ _ l=>match l with
 |[.agg [.int _ a,.int _ b,.int _ c,.int _ d,.int _ e,.int _ f,.int _ g,.int _ h]]=>.bool (Xu ⟨a,b,c,d,e,f,g,h⟩)
 |_=>.junk
def QK(p:Pl)(hc:p.cls.length<=1000000000):Pure Tryz.prog aD 157 [.ep (Qa p++[.junk,.junk]) 0] (.bool (Qbs p)):=by
 refine Qp acr Bc zd ?_;by_cases h0:p.cls.length<=400
 ·have zq:¬(400:Int)<(p.cls.length:Int):=zE
  obtain⟨T,hT⟩:∃T,Qbs p=T:=⟨_,rfl⟩;rw[hT];simp[TI,Qa,h0,zq];refine Qk BY (NW 18 p.cls.length fun i=>xD (p.cls.drop i)=T) (fun f _=>p.cls.length-(numOf (f 18)).toNat) ?_ ?_
  ·exact⟨0,_,zd,zE,by rw[<- hT];simp[Qbs,h0],rfl⟩
  rintro f m ⟨i,bx,h18,hi,ha,rfl⟩;rcases zzaa i p.cls.length with ai|bn
  ·obtain⟨x,hx⟩:=aV ai;have ah:Qj (p.cls.map Qi) i=Qi x:=Qu (by simp[hx]);have aa:(i:Int)<(p.cls.length:Int):=zE
   have hw:=bO i zE;have hk:=Kz x;rw[Ze hx,xD]at ha;cases hv:Xu x with
   |false=>
    rw[hv]at ha hk;simp at ha;simp[h18,ai,aa,ah,Qi,Bc,hv,BY,Em,ha];simpa[Qi]using hk
   |true=>
    rw[hv]at ha hk;simp at ha;simp[h18,ai,aa,ah,Qi,Bc,hv,BY,Em,hw];refine⟨by simpa[Qi]using hk,aQ,⟨i+1,_,zd,zE,ha,rfl⟩,zE⟩
  obtain rfl:i=p.cls.length:=zE
  rw[zzbx]at ha;have ha:true=T:=ha;subst ha;simp[h18,BY,Em]
 have zq:(400:Int)<(p.cls.length:Int):=zE
 simp[TI,Em,Qa,Qbs,h0,zq]
open Go Go.Abs
def mI(l:List It):List (Pi×AV):=l.map fun x=>([x.id],.agg (Qh x))
def mK(l:List Bk):List (Pi×AV):=l.map fun x=>([x.id],.agg (Xj x))
def Gf(id:Int):List Bk->Option Bk
 |[]=>none
 |x::r=>if x.id=id then some x else Gf id r
def xE{k:Pi}:∀{kvs:List (Pi×AV)}{i:Nat},(∀p∈kvs,p.1≠k)->Xi k kvs i=none
 |[],_,_=>rfl
 |(k',a)::r,i,h=>by
  rw[Xi,if_neg (fun e=>h (k',a) zd e.symm)];exact xE fun p hp=>h p (by simp[hp])
def al6(id:Int):∀(l:List It)(i:Nat),(Xg id l=none->Xi [id] (mI l) i=none)/\∀x,Xg id l=some x->∃n,Xi [id] (mI l) i=some (n,.agg (Qh x))
 |[],i=>⟨fun _=>rfl,fun x h=>by cases h⟩
 |y::r,i=>by
  have ih:=al6 id r (i+1);simp only[mI,zzaz,Xi,Xg]at ih |-
  by_cases h:y.id=id
  ·rw[if_pos h,if_pos (by rw[h])];exact⟨fun h=>(by cases h),fun x h=>(by cases h;exact⟨i,rfl⟩)⟩
  rw[if_neg h,if_neg (by intro e;cases e;exact h rfl)];exact ih
def asL(id:Int):∀(l:List Bk)(i:Nat),(Gf id l=none->Xi [id] (mK l) i=none)/\∀x,Gf id l=some x->∃n,Xi [id] (mK l) i=some (n,.agg (Xj x))
 |[],i=>⟨fun _=>rfl,fun x h=>by cases h⟩
 |y::r,i=>by
  have ih:=asL id r (i+1);simp only[mK,zzaz,Xi,Gf]at ih |-
  by_cases h:y.id=id
  ·rw[if_pos h,if_pos (by rw[h])];exact⟨fun h=>(by cases h),fun x h=>(by cases h;exact⟨i,rfl⟩)⟩
  rw[if_neg h,if_neg (by intro e;cases e;exact h rfl)];exact ih
def kU{lo up:Int}:∀{ks:Pi}{pr:Option Int},Kw lo up pr ks=true->ks.Pairwise (·<·)/\∀k∈ks,lo<=k/\k<=up/\∀q,pr=some q->q<k
 |[],pr,_=>⟨List.Pairwise.nil,fun k hk=>by cases hk⟩
 |k::r,pr,h=>by
  rw[Kw]at h;split at h
  ·cases h
  rename_i hn;simp only[not_or]at hn;obtain⟨h1,h2⟩:=kU h
  have hk:∀q,pr=some q->q<k:=fun q hq=>by
   have:=hn.2.2;subst hq;simp[Sn]at this;omega
  refine⟨zzcc.2 ⟨fun a ha=>(h2 a ha).2.2 k rfl,h1⟩,fun a ha=>?_⟩;rcases zzaq.1 ha with rfl|ha
  ·exact⟨zE,zE,hk⟩
  obtain⟨g1,g2,g3⟩:=h2 a ha;refine⟨g1,g2,fun q hq=>?_⟩;have:=hk q hq;have:=g3 k rfl;omega
def xF{α:Type}{key:α->Int}{row:α->AV}{l:List α}{i:Nat}{x:α}(h:(l.map key).Pairwise (·<·))(hx:l[i]?=some x):Xi [key x] ((l.take i).map fun x=>([key x],row x)) 0=none:=by
 refine xE fun p hp=>?_;obtain⟨y,hy,rfl⟩:=zzb.1 hp;obtain⟨j,hj,om⟩:=zzft hy;rw[zzap]at hj;rw[List.getElem_take]at om;obtain⟨hi,hx⟩:=zza.1 hx
 have ai:key l[j]<key l[i]:=by
  have:=zzdp.1 h j i (by simp;omega) (Nm hi) zE;simpa using this
 intro e;rw[<- om,<- hx]at e;simp only[List.cons.injEq,and_true]at e;omega
def Sq(x:It):Bool:=wi x.ki 1 5&&(wi x.fr 1 100000000&&(wi x.sp 0 200&&wi x.ra 0 3))
def xG:List It->Bool
 |[]=>true
 |x::r=>Sq x&&xG r
def gO(p:Pl):Bool:=match Xg p.fi p.aM with
 |some x=>decide (x.ki=5)
 |none=>false
def Sr(p:Pl):Bool:=decide (p.aM.length<=4000)&&(Kw 1 1000000 none (p.aM.map fun x=>x.id)&&(xG p.aM&&gO p))
def bW(p:Pl)(kI kB:List (Pi×AV))(bx:T5):AM:=⟨Qa p::[.aJ 0 kI]::[.aJ 0 kB]::(Qa p++[.mp 1,.mp 2])::bx,[],fun _=>.gone,0⟩
def aer(x:It):Idle (.agg (Qh x)):=Idle.agg fun c hc=>by
 simp only[Qh,zzaq,zzdl,or_false]at hc;rcases hc with rfl|rfl|rfl|rfl|rfl<;>exact Idle.int _ _
def aes(x:Bk):Idle (.agg (Xj x)):=Idle.agg fun c hc=>by
 simp only[Xj,zzaq,zzdl,or_false]at hc;rcases hc with rfl|rfl|rfl|rfl|rfl|rfl|rfl<;>exact Idle.int _ _
def BkK(p:Pl)(K:So)(r:AV)(m:AM):Prop:=∃kI kB bx,m=bW p kI kB bx/\(∀e∈kI,Idle e.2)/\(∀e∈kB,Idle e.2)/\Idle r/\K r (bW p kI kB [])
def Be{p:Pl}{K:So}{r:AV}{m:AM}(kI kB:List (Pi×AV))(bx:T5)(hm:m=bW p kI kB bx)(h1:∀e∈kI,Idle e.2)(h2:∀e∈kB,Idle e.2)(h3:Idle r)(h4:K r (bW p kI kB [])):BkK p K r m:=⟨kI,kB,bx,hm,h1,h2,h3,h4⟩
def sO{f:FuncId}{xs:P2}{p:Pl}{Y:YT}{k0 b0:List (Pi×AV)}{K:So}
  (h:aB Tryz.prog aD Y f xs (bW p k0 b0 []) (BkK p K)):aB Tryz.prog aD Y f xs (bW p k0 b0 []) K:=by
 refine aB.forget (aB.mono h ?_);rintro r m' ⟨kI,kB,bx,rfl,h1,h2,h3,h4⟩;refine⟨bW p kI kB [],bx,rfl,rfl,rfl,fun id cells hc=>?_,h3,h4⟩
 match id,hc with
 |0,hc=>exact .inl hc
 |1,hc=>cases hc;exact .inr (.inr ⟨0,kI,rfl,h1⟩)
 |2,hc=>cases hc;exact .inr (.inr ⟨0,kB,rfl,h2⟩)
 |3,hc=>exact .inl hc
 |n+4,hc=>cases hc
def pK(p:Pl):UV:=fun _ f l=>
 if f=205 then .bool (Kw 1 1000000 none (p.aM.map fun x=>x.id))else(match l with|[.int _ n,.int _ lo,.int _ up]=>.bool (wi n lo up)|_=>.junk)
def Vx(l:List It):∀e∈mI l,Idle e.2:=fun e he=>by
 obtain⟨x,_,rfl⟩:=zzb.1 he;exact aer x
def Qax(l:List Bk):∀e∈mK l,Idle e.2:=fun e he=>by
 obtain⟨x,_,rfl⟩:=zzb.1 he;exact aes x
def aet{l:List It}{i:Nat}{x:It}(h:l[i]?=some x):mI (l.take (i+1))=mI (l.take i)++[([x.id],.agg (Qh x))]:=by
 simp[mI,zzax,h]
def aeu{l:List Bk}{i:Nat}{x:Bk}(h:l[i]?=some x):mK (l.take (i+1))=mK (l.take i)++[([x.id],.agg (Xj x))]:=by
 simp[mK,zzax,h]
def Uw{P:Pi×AV->Prop}:∀e∈([]:List (Pi×AV)),P e:=fun e h=>by cases h
def aiN(s n:Nat)(p:Pl)(kI kB:Nat->List (Pi×AV))(R:Nat->Prop)(f:Nat->AV)(m:AM):Prop:=∃(i:Nat)(bx:T5),f s=I i/\i<=n/\R i/\m=bW p (kI i) (kB i) bx
def aev(p:Pl)(hl:p.aM.length<=1000000000)(Y:YT)(K:So)(VE:Sr p=true->K (.bool true) (bW p (mI p.aM) [] []))(rq:Sr p=false->∀kI,K (.bool false) (bW p kI [] [])):
  aB Tryz.prog aD Y 154 [.ptr 3 0] (bW p [] [] []) K:=by
 have k90:=QH p.aM 1 1000000 zE;refine sO ?_;refine Xn aco (pK p) zd ?_;by_cases h0:p.aM.length<=4000
 ·have zq:¬(4000:Int)<(p.aM.length:Int):=zE
  cases ha:Kw 1 1000000 none (p.aM.map fun x=>x.id)with
  |false=>
   rw[ha]at k90;simp[Ek,ov,bW,Qa,h0,zq,pK,ha];exact⟨k90,Be _ _ _ rfl Uw Uw (Idle.bool _) (rq (by simp[Sr,ha]) [])⟩
  |true=>
   rw[ha]at k90;have hp:=(kU ha).1;simp[Ek,bW,Qa,h0,zq,pK,ha];refine⟨k90,?_⟩;refine Qk iO (aiN 27 p.aM.length p (fun i=>mI (p.aM.take i)) (fun _=>[]) fun i=>xG (p.aM.drop i)=xG p.aM) (fun f _=>p.aM.length-(numOf (f 27)).toNat) ?_ ?_
   ·exact⟨0,[],zd,zE,zd,by simp[bW,Qa,mI]⟩
   rintro f m ⟨i,bx,h27,hi,fP,rfl⟩;rcases zzaa i p.aM.length with ai|bn
   ·obtain⟨x,hx⟩:=aV ai;have ah:Qj (p.aM.map Qh) i=Qh x:=Qu (by simp[hx]);have aa:(i:Int)<(p.aM.length:Int):=zE
    have hw:=bO i zE;have hkf:Xi [x.id] (mI (p.aM.take i)) 0=none:=xF (key:=fun x=>x.id) (row:=fun x=>.agg (Qh x)) hp hx;have bA:=aet hx;rw[Ze hx,xG]at fP;have h1:=Yx x.ki 1 5;have h2:=Yx x.fr 1 100000000;have h3:=Yx x.sp 0 200;have h4:=Yx x.ra 0 3;have bad:Sq x=false->Sr p=false:=fun h=>by rw[h]at fP;simp[Sr,<- fP]
    cases e1:wi x.ki 1 5 with
    |false=>
     rw[e1]at h1;simp[h27,ai,aa,ah,Qh,bW,Qa,pK,e1,iO,ov];exact⟨h1,Be _ _ _ rfl (Vx _) Uw (Idle.bool _) (rq (bad (by simp[Sq,e1])) _)⟩
    |true=>
     rw[e1]at h1;cases e2:wi x.fr 1 100000000 with
     |false=>
      rw[e2]at h2;simp[h27,ai,aa,ah,Qh,bW,Qa,pK,e1,e2,iO,ov];exact⟨h1,h2,Be _ _ _ rfl (Vx _) Uw (Idle.bool _) (rq (bad (by simp[Sq,e1,e2])) _)⟩
     |true=>
      rw[e2]at h2;cases e3:wi x.sp 0 200 with
      |false=>
       rw[e3]at h3;simp[h27,ai,aa,ah,Qh,bW,Qa,pK,e1,e2,e3,iO,ov];exact⟨h1,h2,h3,Be _ _ _ rfl (Vx _) Uw (Idle.bool _) (rq (bad (by simp[Sq,e1,e2,e3])) _)⟩
      |true=>
       rw[e3]at h3;cases e4:wi x.ra 0 3 with
       |false=>
        rw[e4]at h4;simp[h27,ai,aa,ah,Qh,bW,Qa,pK,e1,e2,e3,e4,iO,ov];exact⟨h1,h2,h3,h4,Be _ _ _ rfl (Vx _) Uw (Idle.bool _) (rq (bad (by simp[Sq,e1,e2,e3,e4])) _)⟩
       |true=>
        rw[e4]at h4;have bU:Sq x=true:=by simp[Sq,e1,e2,e3,e4]
        rw[bU,zzea]at fP;simp[h27,ai,aa,ah,Qh,bW,Qa,pK,e1,e2,e3,e4,iO,hw,hkf];refine⟨h1,h2,h3,h4,aQ,⟨i+1,bx++[Qh x],zd,zE,fP,?_⟩,zE⟩
        ·simp only[bA];simp[Qh,bW,Qa]
   have bP:¬(i:Int)<(p.aM.length:Int):=zE
   rw[zzal bn]at fP;have lZ:p.aM.take i=p.aM:=zzas bn;simp only[lZ];have fP:xG p.aM=true:=by rw[<- fP];rfl
   obtain⟨g1,g2⟩:=al6 p.fi p.aM 0;cases hf:Xg p.fi p.aM with
   |none=>
    have g:=g1 hf;simp[h27,bP,iO,ov,bW,Qa,g];exact Be _ _ _ rfl (Vx _) Uw (Idle.bool _) (rq (by simp[Sr,gO,hf]) _)
   |some x=>
    obtain⟨n,g⟩:=g2 x hf;simp[h27,bP,iO,ov,bW,Qa,g,Qh];by_cases h5:x.ki=5
    ·simp only[h5];exact Be _ _ _ rfl (Vx _) Uw (Idle.bool _) (VE (by simp[Sr,gO,hf,h0,ha,fP,h5]))
    have h5':(x.ki==5)=false:=by simpa using h5
    rw[h5'];exact Be _ _ _ rfl (Vx _) Uw (Idle.bool _) (rq (by simp[Sr,gO,hf,h5]) _)
 have zq:(4000:Int)<(p.aM.length:Int):=zE
 simp[Ek,ov,bW,Qa,h0,zq,pK];exact Be _ _ _ rfl Uw Uw (Idle.bool _) (rq (by simp[Sr,h0]) [])
open Go Go.Abs
def Dd(x:Bk):Bool:=decide (0<=x.fr)&&(decide (x.fr<x.to)&&(decide (x.to<=x.un)&&decide (x.un<=100000000)))
def kindOf(p:Pl)(id:Int):Int:=match Xg id p.aM with
 |some y=>y.ki
 |none=>0
def XY(p:Pl)(x:Bk):Bool:=decide (kindOf p x.it=2)&&(wi x.re 0 (p.rg-1)&&(Dd x&&wi x.pr 0 1000000000))
def zS(p:Pl):List Bk->Bool
 |[]=>true
 |x::r=>XY p x&&zS p r
def XZ(p:Pl):Bool:=decide (p.bks.length<=2000)&&(Kw 1 1000000 none (p.bks.map fun x=>x.id)&&zS p p.bks)
def De(p:Pl)(id:Int):∃r,Xi [id] (mI p.aM) 0=r/\((∃n x,Xg id p.aM=some x/\r=some (n,.agg (Qh x)))\/(Xg id p.aM=none/\r=none)):=by
 obtain⟨g1,g2⟩:=al6 id p.aM 0;cases hf:Xg id p.aM with
 |none=>exact⟨_,rfl,.inr ⟨rfl,g1 hf⟩⟩
 |some x=>
  obtain⟨n,g⟩:=g2 x hf;exact⟨_,rfl,.inl ⟨n,x,rfl,g⟩⟩
def QL(p:Pl):UV:=fun _ f l=>
 if f=206 then .bool (Kw 1 1000000 none (p.bks.map fun x=>x.id))else(match l with|[.int _ n,.int _ lo,.int _ up]=>.bool (wi n lo up)|_=>.junk)
def aew(p:Pl)(hl:p.bks.length<=8796093022208)(KQ:1<=p.rg/\p.rg<=8)(Y:YT)(K:So)(VE:XZ p=true->K (.bool true) (bW p (mI p.aM) (mK p.bks) []))(rq:XZ p=false->∀kB,K (.bool false) (bW p (mI p.aM) kB [])):
  aB Tryz.prog aD Y 155 [.ptr 3 0] (bW p (mI p.aM) [] []) K:=by
 have k90:=QI p.bks 1 1000000 hl;refine sO ?_;refine Xn acp (QL p) zd ?_;by_cases h0:p.bks.length<=2000
 ·have zq:¬(2000:Int)<(p.bks.length:Int):=zE
  cases ha:Kw 1 1000000 none (p.bks.map fun x=>x.id)with
  |false=>
   rw[ha]at k90;simp[El,fF,bW,Qa,h0,zq,QL,ha];exact⟨k90,Be _ _ _ rfl (Vx _) Uw (Idle.bool _) (rq (by simp[XZ,ha]) [])⟩
  |true=>
   rw[ha]at k90;have hp:=(kU ha).1;simp[El,bW,Qa,h0,zq,QL,ha];refine⟨k90,?_⟩;refine Qk eC (aiN 28 p.bks.length p (fun _=>mI p.aM) (fun i=>mK (p.bks.take i)) fun i=>zS p (p.bks.drop i)=zS p p.bks) (fun f _=>p.bks.length-(numOf (f 28)).toNat) ?_ ?_
   ·exact⟨0,[],zd,zE,zd,by simp[bW,Qa,mK]⟩
   rintro f m ⟨i,bx,h28,hi,fP,rfl⟩;rcases zzaa i p.bks.length with ai|bn
   ·obtain⟨x,hx⟩:=aV ai;have ah:Qj (p.bks.map Xj) i=Xj x:=Qu (by simp[hx]);have aa:(i:Int)<(p.bks.length:Int):=zE
    have hw:=bO i zE;have qX:IntKind.i64.wrap (p.rg-1)=p.rg-1:=by rw[Ql]<;>omega
    have hkf:Xi [x.id] (mK (p.bks.take i)) 0=none:=xF (key:=fun x=>x.id) (row:=fun x=>.agg (Xj x)) hp hx;have bA:=aeu hx;rw[Ze hx,zS]at fP;have h1:=Yx x.re 0 (p.rg-1);have h2:=Yx x.pr 0 1000000000;have bad:XY p x=false->XZ p=false:=fun h=>by rw[h]at fP;simp[XZ,<- fP]
    obtain⟨r,hr,QM⟩:=De p x.it;by_cases eM:kindOf p x.it=2
    ·obtain⟨n,y,hf,rfl⟩|⟨hf,rfl⟩:=QM
     ·have hy:y.ki=2:=by simpa[kindOf,hf]using eM
      cases e1:wi x.re 0 (p.rg-1)with
      |false=>
       rw[e1]at h1;simp[h28,ai,aa,ah,Xj,bW,Qa,QL,hr,Qh,hy,qX,e1,eC,fF];exact⟨h1,Be _ _ _ rfl (Vx _) (Qax _) (Idle.bool _) (rq (bad (by simp[XY,e1])) _)⟩
      |true=>
       rw[e1]at h1;cases e2:Dd x with
       |false=>
        have e2':¬(0<=x.fr)\/(0<=x.fr/\¬x.fr<x.to)\/(0<=x.fr/\x.fr<x.to/\¬x.to<=x.un)\/(0<=x.fr/\x.fr<x.to/\x.to<=x.un/\¬x.un<=100000000):=by
         simp[Dd]at e2;omega
        obtain c1|⟨c1,c2⟩|⟨c1,c2,c3⟩|⟨c1,c2,c3,c4⟩:=e2'
        ·simp[h28,ai,aa,ah,Xj,bW,Qa,QL,hr,Qh,hy,qX,e1,c1,eC,fF];exact⟨h1,Be _ _ _ rfl (Vx _) (Qax _) (Idle.bool _) (rq (bad (by simp[XY,e1,e2])) _)⟩
        ·simp[h28,ai,aa,ah,Xj,bW,Qa,QL,hr,Qh,hy,qX,e1,c1,c2,eC,fF];exact⟨h1,Be _ _ _ rfl (Vx _) (Qax _) (Idle.bool _) (rq (bad (by simp[XY,e1,e2])) _)⟩
        ·simp[h28,ai,aa,ah,Xj,bW,Qa,QL,hr,Qh,hy,qX,e1,c1,c2,c3,eC,fF];exact⟨h1,Be _ _ _ rfl (Vx _) (Qax _) (Idle.bool _) (rq (bad (by simp[XY,e1,e2])) _)⟩
        simp[h28,ai,aa,ah,Xj,bW,Qa,QL,hr,Qh,hy,qX,e1,c1,c2,c3,c4,eC,fF];exact⟨h1,Be _ _ _ rfl (Vx _) (Qax _) (Idle.bool _) (rq (bad (by simp[XY,e1,e2])) _)⟩
       |true=>
        have e2':0<=x.fr/\x.fr<x.to/\x.to<=x.un/\x.un<=100000000:=by
         simp[Dd]at e2;omega
        obtain⟨c1,c2,c3,c4⟩:=e2';cases e3:wi x.pr 0 1000000000 with
        |false=>
         rw[e3]at h2;simp[h28,ai,aa,ah,Xj,bW,Qa,QL,hr,Qh,hy,qX,e1,c1,c2,c3,c4,e3,eC,fF];exact⟨h1,h2,Be _ _ _ rfl (Vx _) (Qax _) (Idle.bool _) (rq (bad (by simp[XY,e1,e2,e3])) _)⟩
        |true=>
         rw[e3]at h2;have bU:XY p x=true:=by simp[XY,eM,e1,e2,e3]
         rw[bU,zzea]at fP;simp[h28,ai,aa,ah,Xj,bW,Qa,QL,hr,Qh,hy,qX,e1,c1,c2,c3,c4,e3,eC,fF,hw,hkf];refine⟨h1,h2,aQ,⟨i+1,bx++[Xj x],zd,zE,fP,?_⟩,zE⟩
         ·simp only[bA];simp[Xj,bW,Qa]
     simp[kindOf,hf]at eM
    have hb:=bad (by simp[XY,eM]);obtain⟨n,y,hf,rfl⟩|⟨hf,rfl⟩:=QM
    ·have hy:¬y.ki=2:=by simpa[kindOf,hf]using eM
     simp[h28,ai,aa,ah,Xj,bW,Qa,QL,hr,Qh,hy,qX,eC,fF];exact Be _ _ _ rfl (Vx _) (Qax _) (Idle.bool _) (rq hb _)
    simp[h28,ai,aa,ah,Xj,bW,Qa,QL,hr,Qh,qX,eC,fF];exact Be _ _ _ rfl (Vx _) (Qax _) (Idle.bool _) (rq hb _)
   have bP:¬(i:Int)<(p.bks.length:Int):=zE
   rw[zzal bn]at fP;have lZ:p.bks.take i=p.bks:=zzas bn;simp only[lZ];have fP:zS p p.bks=true:=by rw[<- fP];rfl
   simp[h28,bP,eC,fF,bW,Qa];exact Be _ _ _ rfl (Vx _) (Qax _) (Idle.bool _) (VE (by simp[XZ,h0,ha,fP]))
 have zq:(2000:Int)<(p.bks.length:Int):=zE
 simp[El,fF,bW,Qa,h0,zq,QL];exact Be _ _ _ rfl (Vx _) Uw (Idle.bool _) (rq (by simp[XZ,h0]) [])
open Go Go.Abs
def RdK(m:AM)(K:So)(r:AV)(m':AM):Prop:=∃ex,m'={m with boxes:=m.boxes++ex}/\Idle r/\K r m
def pL{m:AM}{K:So}{r:AV}{m':AM}(ex:T5)(hm:m'={m with boxes:=m.boxes++ex})(hi:Idle r)(hK:K r m):RdK m K r m':=⟨ex,hm,hi,hK⟩
def We{f:FuncId}{xs:P2}{m:AM}{Y:YT}{K:So}(h:aB Tryz.prog aD Y f xs m (RdK m K)):aB Tryz.prog aD Y f xs m K:=by
 refine aB.mono (aB.read (K:=fun r=>K r m) (aB.mono h fun r m' h=>h)) ?_;rintro r m' ⟨rfl,h⟩;exact h
def pM:∀{l:List It},xG l=true->∀x∈l,Sq x=true
 |y::r,h,x,hx=>by
  rw[xG,zzac]at h;rcases zzaq.1 hx with rfl|hx
  ·exact h.1
  exact pM h.2 x hx
def X3{x:It}(h:Sq x=true):(1<=x.ki/\x.ki<=5)/\(1<=x.fr/\x.fr<=100000000)/\(0<=x.sp/\x.sp<=200)/\(0<=x.ra/\x.ra<=3):=by
 simp only[Sq,wi,zzac,decide_eq_true_eq]at h;exact h
def QN(p:Pl)(e:En):Bool:=match Xg e.it p.aM with
 |none=>false
 |some y=>if y.ki=5 then false else if wi e.fr 1 y.fr=false then false else if y.ki≠4/\e.fr≠y.fr then false else decide (0<=e.ea)&&(decide (e.ea<=e.la)&&decide (e.la<=p.ln-e.fr))
def jM:UV:=fun _ f l=>match l with|[.int _ n,.int _ lo,.int _ up]=>.bool (wi n lo up)|_=>.junk
def al7(p:Pl)(e:En)(kB:List (Pi×AV))(bx:T5)(KR:xG p.aM=true)(dG:1<=p.ln/\p.ln<=100000000)(Y:YT)(K:So)(hK:∀b,QN p e=b->K (.bool b) (bW p (mI p.aM) kB bx)):
  aB Tryz.prog aD Y 208 [.ptr 3 0,.agg (Qd e)] (bW p (mI p.aM) kB bx) K:=by
 refine We (Xn ac4 jM zd ?_);obtain⟨r,hr,QM⟩:=De p e.it;simp[ahw,ahx,bW,Qa,Qd];refine Uh ?_;obtain⟨n,y,hf,rfl⟩|⟨hf,rfl⟩:=QM
 ·obtain⟨g1,g2,g3,g4⟩:=X3 (pM KR y (Qdd hf).1);have h1:=Yx e.fr 1 y.fr;by_cases c1:y.ki=5
  ·simp[hr,Qh,c1];exact pL _ rfl (Idle.bool _) (hK _ (by simp[QN,hf,c1]))
  cases c2:wi e.fr 1 y.fr with
  |false=>
   rw[c2]at h1;simp[hr,Qh,c1,c2,jM];exact⟨h1,pL _ rfl (Idle.bool _) (hK _ (by simp[QN,hf,c1,c2]))⟩
  |true=>
   rw[c2]at h1;have c2':1<=e.fr/\e.fr<=y.fr:=by simpa[wi]using c2
   have hw:IntKind.i64.wrap (p.ln-e.fr)=p.ln-e.fr:=by rw[Ql]<;>omega
   by_cases c3:y.ki≠4/\e.fr≠y.fr
   ·simp[hr,Qh,c1,c2,jM,c3.1,c3.2];exact⟨h1,pL _ rfl (Idle.bool _) (hK _ (by simp[QN,hf,c1,c2,c3.1,c3.2]))⟩
   have fin:∀b,(decide (0<=e.ea)&&(decide (e.ea<=e.la)&&decide (e.la<=p.ln-e.fr)))=b->QN p e=b:=fun b hb=>by
    rw[QN,hf];simp only;rw[if_neg c1,if_neg (by simp[c2]),if_neg c3];exact hb
   have c3':y.ki=4\/(¬y.ki=4/\e.fr=y.fr):=by
    by_cases h:y.ki=4
    ·exact .inl h
    exact .inr ⟨h,by by_cases h':e.fr=y.fr;exact h';exact absurd ⟨h,h'⟩ c3⟩
   by_cases d1:0<=e.ea
   ·by_cases d2:e.ea<=e.la
    ·by_cases d3:e.la<=p.ln-e.fr
     ·obtain c|⟨c,c'⟩:=c3'
      ·simp[hr,Qh,c1,c2,jM,c,hw,d1,d2,d3];exact⟨h1,pL _ rfl (Idle.bool _) (hK _ (fin _ (by simp[d1,d2,d3])))⟩
      rw[<- c']at c2 h1;simp[hr,Qh,c1,c2,jM,c,<- c',hw,d1,d2,d3];exact⟨h1,pL _ rfl (Idle.bool _) (hK _ (fin _ (by simp[d1,d2,d3])))⟩
     obtain c|⟨c,c'⟩:=c3'
     ·simp[hr,Qh,c1,c2,jM,c,hw,d1,d2,d3];exact⟨h1,pL _ rfl (Idle.bool _) (hK _ (fin _ (by simp[d1,d2,d3])))⟩
     rw[<- c']at c2 h1;simp[hr,Qh,c1,c2,jM,c,<- c',hw,d1,d2,d3];exact⟨h1,pL _ rfl (Idle.bool _) (hK _ (fin _ (by simp[d1,d2,d3])))⟩
    obtain c|⟨c,c'⟩:=c3'
    ·simp[hr,Qh,c1,c2,jM,c,d1,d2];exact⟨h1,pL _ rfl (Idle.bool _) (hK _ (fin _ (by simp[d1,d2])))⟩
    rw[<- c']at c2 h1;simp[hr,Qh,c1,c2,jM,c,<- c',d1,d2];exact⟨h1,pL _ rfl (Idle.bool _) (hK _ (fin _ (by simp[d1,d2])))⟩
   obtain c|⟨c,c'⟩:=c3'
   ·simp[hr,Qh,c1,c2,jM,c,d1];exact⟨h1,pL _ rfl (Idle.bool _) (hK _ (fin _ (by simp[d1])))⟩
   rw[<- c']at c2 h1;simp[hr,Qh,c1,c2,jM,c,<- c',d1];exact⟨h1,pL _ rfl (Idle.bool _) (hK _ (fin _ (by simp[d1])))⟩
 simp[hr];exact pL _ rfl (Idle.bool _) (hK _ (by simp[QN,hf]))
open Go Go.Abs
def zT(p:Pl)(e:En)(a:Sp):Bool:=match Xg a.2 p.aM with
 |none=>false
 |some y=>decide (y.fr=e.fr)&&(decide (y.ki≠5)&&decide (y.ki≠4))
def NX(p:Pl)(e:En)(kB:List (Pi×AV))(b0:T5):AM:=bW p (mI p.aM) kB (b0++[[.ptr 3 0],Qd e])
def rdA{p:Pl}{e:En}{kB:List (Pi×AV)}{b0:T5}{K:So}{r:AV}{m':AM}(ex:T5)(hm:m'=bW p (mI p.aM) kB (b0++([.ptr 3 0]::Qd e::ex)))(hi:Idle r)(hK:K r (NX p e kB b0)):RdK (NX p e kB b0) K r m':=
 pL ex (by rw[hm];simp[NX,bW]) hi hK
def X4(p:Pl)(e:En)(a:Sp)(kB:List (Pi×AV))(b0:T5)(Y:YT)(K:So)(hK:K (.bool (!zT p e a)) (NX p e kB b0)):
  aB Tryz.prog aD Y 240 [.agg (Qf a),.ptr (b0.length+4) 0,.ptr (b0.length+5) 0] (NX p e kB b0) K:=by
 refine We (Xn adl (fun _ _ _=>.junk) zd ?_);obtain⟨r,hr,QM⟩:=De p a.2;simp[ahJ,ahK,NX,bW,Qa,Qd,Qf];refine Uh ?_;obtain⟨n,y,hf,rfl⟩|⟨hf,rfl⟩:=QM
 ·by_cases c1:y.fr=e.fr
  ·by_cases c2:y.ki=5
   ·have:(!zT p e a)=true:=by simp[zT,hf,c1,c2]
    rw[this]at hK;simp[hr,Qh,c1,c2];exact rdA _ rfl (Idle.bool _) hK
   by_cases c3:y.ki=4
   ·have:(!zT p e a)=true:=by simp[zT,hf,c1,c2,c3]
    rw[this]at hK;simp[hr,Qh,c1,c2,c3];exact rdA _ rfl (Idle.bool _) hK
   have:(!zT p e a)=false:=by simp[zT,hf,c1,c2,c3]
   rw[this]at hK;have h':(y.ki==5||y.ki==4)=false:=by simp[c2,c3]
   simp[hr,Qh,c1,c2,c3];rw[h'];exact rdA _ rfl (Idle.bool _) hK
  have:(!zT p e a)=true:=by simp[zT,hf,c1]
  rw[this]at hK;have h':(y.fr !=e.fr||y.ki==5||y.ki==4)=true:=by simp[c1]
  simp[hr,Qh,c1];rw[h'];exact rdA _ rfl (Idle.bool _) hK
 have:(!zT p e a)=true:=by simp[zT,hf]
 rw[this]at hK;simp[hr];exact rdA _ rfl (Idle.bool _) hK
def jN{α:Type}(b:α->Bool):List α->Nat->Int
 |[],_=> -1
 |x::r,i=>if b x=true then(i:Int)else jN b r (i+1)
def xH{α:Type}(b:α->Bool):∀(l:List α)(i:Nat),(0<=jN b l i<->l.any b=true)
 |[],i=>by simp[jN]
 |x::r,i=>by
  rw[jN];cases h:b x with
  |true=>simp[h]
  |false=>simp[h,xH b r (i+1)]
def asM(s n:Nat)(m0:AM)(R:Nat->Prop)(f:Nat->AV)(m:AM):Prop:=∃(i:Nat),f s=I i/\i<=n/\R i/\m=m0
def X5(p:Pl)(e:En)(L:List Sp)(hl:L.length<=8796093022208)(kB:List (Pi×AV))(b0:T5)(Y:YT)(K:So)(hK:K (I (jN (fun a=>!zT p e a) L 0)) (NX p e kB b0)):
  aB Tryz.prog aD Y 262 [.sl .ro (L.map Qf),.fn 240 [] [.ptr (b0.length+4) 0,.ptr (b0.length+5) 0]] (NX p e kB b0) K:=by
 obtain⟨T,hT⟩:∃T,jN (fun a=>!zT p e a) L 0=T:=⟨_,rfl⟩;rw[hT]at hK;refine Xn adt (fun _ _ _=>.gd false .junk) zd ?_;simp[ahY];refine Qk vB (asM 8 L.length (NX p e kB b0) fun i=>jN (fun a=>!zT p e a) (L.drop i) i=T) (fun f _=>L.length-(numOf (f 8)).toNat) ?_ ?_
 ·exact⟨0,zd,zE,Nm hT,rfl⟩
 rintro f m ⟨i,h8,hi,hx,rfl⟩;rcases zzaa i L.length with ai|bn
 ·obtain⟨a,ha⟩:=aV ai;have ah:=Zv ha;have aa:(i:Int)<(L.length:Int):=zE
  have hw:=bO i zE;rw[Ze ha,jN]at hx;simp[h8,ai,aa,ah,vB,Ex];refine X4 p e a kB b0 Y _ ?_;cases hb:zT p e a with
  |false=>
   rw[hb]at hx;simp at hx;simp[h8,vB,Ex,hx];exact hK
  |true=>
   rw[hb]at hx;simp at hx;simp[h8,vB,Ex,hw];refine⟨aQ,⟨i+1,zd,zE,hx,rfl⟩,zE⟩
 have bP:¬(i:Int)<(L.length:Int):=zE
 rw[zzal bn,jN]at hx;simp[h8,bP,zzbk.2 bn,vB,Ex,hx];exact hK
def KS(p:Pl)(e:En)(L:List Sp)(hl:L.length<=8796093022208)(kB:List (Pi×AV))(b0:T5)(Y:YT)(K:So)(hK:K (.bool (L.any fun a=>!zT p e a)) (NX p e kB b0)):
  aB Tryz.prog aD Y 241 [.sl .ro (L.map Qf),.fn 240 [] [.ptr (b0.length+4) 0,.ptr (b0.length+5) 0]] (NX p e kB b0) K:=by
 have al8:=xH (fun a=>!zT p e a) L 0;refine Xn adm (fun _ _ _=>.gd false .junk) zd ?_;simp[ahL];refine X5 p e L hl kB b0 Y _ ?_
 have:decide (0<=jN (fun a=>!zT p e a) L 0)=L.any fun a=>!zT p e a:=by
  rw[zzcy,decide_eq_true_eq];exact al8
 simp[ahM,this];simpa using hK
def gQ(p:Pl)(e:En):Bool:=Kw 1 (p.rg-1) none (e.al.map fun x=>x.1)&&(!(decide (kindOf p e.it=4)&&decide (e.al≠[]))&&!(e.al.any fun a=>!zT p e a))
def Bf(p:Pl)(e:En):UV:=fun _ f _=>if f=238 then .bool (Kw 1 (p.rg-1) none (e.al.map fun x=>x.1))else .gd false .junk
def al9(p:Pl)(e:En)(hl:e.al.length<=8796093022208)(KQ:1<=p.rg/\p.rg<=8)(kB:List (Pi×AV))(bx:T5)(Y:YT)(K:So)(hK:∀b,gQ p e=b->K (.bool b) (bW p (mI p.aM) kB bx)):
  aB Tryz.prog aD Y 209 [.ptr 3 0,.agg (Qd e)] (bW p (mI p.aM) kB bx) K:=by
 have Gg:=QJ e.al 1 (p.rg-1) hl;refine We (Xn ac5 (Bf p e) zd ?_);obtain⟨r,hr,QM⟩:=De p e.it;have qX:IntKind.i64.wrap (p.rg-1)=p.rg-1:=by rw[Ql]<;>omega
 cases h1:Kw 1 (p.rg-1) none (e.al.map fun x=>x.1)with
 |false=>
  rw[h1]at Gg;simp[Ao,ow,bW,Qa,Qd,qX,Bf,h1];exact⟨Gg,pL _ rfl (Idle.bool _) (hK _ (by simp[gQ,h1]))⟩
 |true=>
  rw[h1]at Gg;have tl:∀(E:QQ),True:=fun _=>trivial;have Sg:kindOf p e.it=4->e.al≠[]->gQ p e=false:=fun h h'=>by simp[gQ,h,h']
  have gi:¬(kindOf p e.it=4/\e.al≠[])->gQ p e=!(e.al.any fun a=>!zT p e a):=fun h=>by
   have:(decide (kindOf p e.it=4)&&decide (e.al≠[]))=false:=by
    rw[Bool.eq_false_iff];intro h';simp at h';exact h h'
   rw[gQ,h1,this];rfl
  obtain⟨n,y,hf,rfl⟩|⟨hf,rfl⟩:=QM
  ·have hkd:kindOf p e.it=y.ki:=by simp[kindOf,hf]
   by_cases c1:y.ki=4
   ·by_cases c2:e.al=[]
    ·have PG:=gi (by simp[c2]);have c2l:¬0<e.al.length:=by simp[c2]
     simp[Ao,ow,bW,Qa,Qd,qX,Bf,h1,hr,Qh,c1,c2];rw[c2]at Gg;refine⟨Gg,?_⟩;have:=KS p e [] zd kB bx Y;simp only[NX,bW,Qa,Qd,c2]at this;refine this _ ?_;simp[ow];exact pL _ rfl (Idle.bool _) (hK _ (by rw[PG,c2];rfl))
    have c2l:0<e.al.length:=zzdc.2 c2;simp[Ao,ow,bW,Qa,Qd,qX,Bf,h1,hr,Qh,c1,c2l];exact⟨Gg,pL _ rfl (Idle.bool _) (hK _ (Sg (by rw[hkd,c1]) c2))⟩
   have PG:=gi (by rw[hkd];exact fun h=>c1 h.1);simp[Ao,ow,bW,Qa,Qd,qX,Bf,h1,hr,Qh,c1];refine⟨Gg,?_⟩;have:=KS p e e.al hl kB bx Y;simp only[NX,bW,Qa,Qd]at this;refine this _ ?_;simp[ow];exact pL _ rfl (Idle.bool _) (hK _ (by rw[PG]))
  have PG:=gi (by simp[kindOf,hf]);simp[Ao,ow,bW,Qa,Qd,qX,Bf,h1,hr];refine⟨Gg,?_⟩;have:=KS p e e.al hl kB bx Y;simp only[NX,bW,Qa,Qd]at this;refine this _ ?_;simp[ow];exact pL _ rfl (Idle.bool _) (hK _ (by rw[PG]))
open Go Go.Abs
def xI(x a:Sp):Bool:=x.1==a.1&&x.2==a.2
def X6(x:Sp)(L:List Sp):L.any (xI x)=decide (x∈L):=by
 rw[zzcy];simp only[zzbr,decide_eq_true_eq,xI,zzac,beq_iff_eq];constructor
 ·rintro⟨a,h,h1,h2⟩;have:x=a:=Prod.ext h1 h2;rw[this];exact h
 exact fun h=>⟨x,h,rfl,rfl⟩
def X7(x:Sp)(L:List Sp)(hl:L.length<=8796093022208):Pure Tryz.prog aD 263 [.sl .ro (L.map Qf),.agg (Qf x)] (I (jN (xI x) L 0)):=by
 obtain⟨T,hT⟩:∃T,jN (xI x) L 0=T:=⟨_,rfl⟩;rw[hT];refine Qp adu (fun _ _ _=>.junk) zd ?_;simp[ahZ,Qf];refine Qk Ce (asM 8 L.length ⟨[[I x.1,I x.2]],[],fun _=>.gone,0⟩ fun i=>jN (xI x) (L.drop i) i=T) (fun f _=>L.length-(numOf (f 8)).toNat) ?_ ?_
 ·exact⟨0,zd,zE,Nm hT,rfl⟩
 rintro f m ⟨i,h8,hi,hx,rfl⟩;rcases zzaa i L.length with ai|bn
 ·obtain⟨a,ha⟩:=aV ai;have ah:Qj (L.map Qf) i=Qf a:=Zv ha;have aiO:Qj (L.map fun x=>[I x.1,I x.2]) i=Qf a:=ah;have aa:(i:Int)<(L.length:Int):=zE
  have hw:=bO i zE;rw[Ze ha,jN]at hx;cases hb:xI x a with
  |false=>
   rw[hb]at hx;simp at hx;simp only[xI]at hb;simp[h8,ai,aa,ah,aiO,Ce,Nc,hw,Qf,hb];refine⟨aQ,⟨i+1,zd,zE,hx,rfl⟩,zE⟩
  |true=>
   rw[hb]at hx;simp at hx;simp only[xI]at hb;subst hx;simp[h8,ai,aa,ah,aiO,Ce,Nc,Qf,hb]
 have bP:¬(i:Int)<(L.length:Int):=zE
 rw[zzal bn,jN]at hx;simp[h8,bP,zzbk.2 bn,Ce,Nc,hx]
def Gh(x:Sp)(L:List Sp)(hl:L.length<=8796093022208):Pure Tryz.prog aD 242 [.sl .ro (L.map Qf),.agg (Qf x)] (.bool (decide (x∈L))):=by
 have k:=X7 x L hl;have al8:=xH (xI x) L 0;refine Qp adn (fun _ _ _=>I (jN (xI x) L 0)) zd ?_
 have:decide (0<=jN (xI x) L 0)=decide (x∈L):=by
  rw[<- X6,zzcy,decide_eq_true_eq];exact al8
 simp[ahN,ahO,this,Qf];simpa[Qf]using k
def ama(p:Pl)(id:Int):∃r,Xi [id] (mK p.bks) 0=r/\((∃n x,Gf id p.bks=some x/\r=some (n,.agg (Xj x)))\/(Gf id p.bks=none/\r=none)):=by
 obtain⟨g1,g2⟩:=asL id p.bks 0;cases hf:Gf id p.bks with
 |none=>exact⟨_,rfl,.inr ⟨rfl,g1 hf⟩⟩
 |some x=>
  obtain⟨n,g⟩:=g2 x hf;exact⟨_,rfl,.inl ⟨n,x,rfl,g⟩⟩
def Gi(p:Pl)(e:En):Bool:=if e.bo=0 then true else match Gf e.bo p.bks with
 |none=>false
 |some x=>if x.re=0 then decide (x.it=e.it)else decide ((x.re,x.it)∈e.al)
def QO(p:Pl)(e:En)(hl:e.al.length<=8796093022208)(kI:List (Pi×AV))(bx:T5)(Y:YT)(K:So)(hK:∀b,Gi p e=b->K (.bool b) (bW p kI (mK p.bks) bx)):
  aB Tryz.prog aD Y 210 [.ptr 3 0,.agg (Qd e)] (bW p kI (mK p.bks) bx) K:=by
 obtain⟨r,hr,QM⟩:=ama p e.bo;by_cases h0:e.bo=0
 ·refine We (Xn Cb (fun _ _ _=>.junk) zd ?_);simp[M3,M4,bW,Qa,Qd,h0];exact pL _ rfl (Idle.bool _) (hK _ (by simp[Gi,h0]))
 obtain⟨n,x,hf,rfl⟩|⟨hf,rfl⟩:=QM
 ·have k:=Gh (x.re,x.it) e.al hl;refine We (Xn Cb (fun _ _ _=>.bool (decide ((x.re,x.it)∈e.al))) zd ?_);simp[M3,M4,bW,Qa,Qd,h0];refine Uh ?_;by_cases c1:x.re=0
  ·simp[hr,Xj,c1];exact pL _ rfl (Idle.bool _) (hK _ (by simp only[Gi,h0,hf,c1];rw[zzcy];simp))
  simp[hr,Xj,c1];refine⟨by simpa[Qf]using k,pL _ rfl (Idle.bool _) (hK _ (by simp[Gi,h0,hf,c1]))⟩
 refine We (Xn Cb (fun _ _ _=>.junk) zd ?_);simp[M3,M4,bW,Qa,Qd,h0];refine Uh ?_;simp[hr];exact pL _ rfl (Idle.bool _) (hK _ (by simp[Gi,h0,hf]))
def ru(p:Pl)(seen:Pi)(e:En):Bool:=wi e.id 1 1000000&&(!decide (e.id∈seen)&&(QN p e&&(gQ p e&&Gi p e)))
def tZ(p:Pl):Pi->List En->Bool
 |_,[]=>true
 |seen,e::r=>ru p seen e&&tZ p (seen++[e.id]) r
def mA(p:Pl):Bool:=decide (p.ens.length<=4000)&&tZ p [] p.ens
def mS(l:Pi):List (Pi×AV):=l.map fun n=>([n],.bool true)
def asN(k:Int):∀(l:Pi)(i:Nat),(k∈l->∃n,Xi [k] (mS l) i=some (n,.bool true))/\(¬k∈l->Xi [k] (mS l) i=none)
 |[],i=>⟨fun h=>(by cases h),fun _=>rfl⟩
 |x::r,i=>by
  have ih:=asN k r (i+1);simp only[mS,zzaz,Xi]at ih |-
  by_cases h:x=k
  ·subst h;simp
  have h':¬k=x:=fun e=>h e.symm;rw[if_neg (by intro e;cases e;exact h rfl)];simp only[zzaq,h',false_or];exact ih
def xJ:UV:=fun _ f l=>if f=204 then(match l with|[.int _ n,.int _ lo,.int _ up]=>.bool (wi n lo up)|_=>.junk)else .gd false .junk
def amb(p:Pl)(f:Nat->AV)(m:AM):Prop:=∃(i:Nat)(bx:T5),f 20=I i/\i<=p.ens.length/\tZ p ((p.ens.take i).map fun e=>e.id) (p.ens.drop i)=tZ p [] p.ens/\f 3=.mp 4/\m=bW p (mI p.aM) (mK p.bks) ([.aJ 0 (mS ((p.ens.take i).map fun e=>e.id))]::bx)
def Qdg{p:Pl}{i:Nat}{e:En}(h:p.ens[i]?=some e):Qj (p.ens.map Qd) i=Qd e:=Qu (by simp[h])
def QS(p:Pl)(hl:p.ens.length<=1000000000)(fP:∀e∈p.ens,e.al.length<=8796093022208)(KR:xG p.aM=true)(KQ:1<=p.rg/\p.rg<=8)(dG:1<=p.ln/\p.ln<=100000000)(Y:YT)(K:So)(hK:∀b,mA p=b->K (.bool b) (bW p (mI p.aM) (mK p.bks) [])):
  aB Tryz.prog aD Y 156 [.ptr 3 0] (bW p (mI p.aM) (mK p.bks) []) K:=by
 refine We (Xn acq xJ zd ?_);by_cases h0:p.ens.length<=4000
 ·have zq:¬(4000:Int)<(p.ens.length:Int):=zE
  simp[MM,bW,Qa,h0,zq];refine Qk qu (amb p) (fun f _=>p.ens.length-(numOf (f 20)).toNat) ?_ ?_
  ·exact⟨0,[],zd,zE,zd,zd,by simp[bW,Qa,mS]⟩
  rintro f m ⟨i,bx,h20,hi,ha,h3,rfl⟩;rcases zzaa i p.ens.length with ai|bn
  ·obtain⟨e,he⟩:=aV ai;have ah:=Qdg he;have aa:(i:Int)<(p.ens.length:Int):=zE
   have hw:=bO i zE;have bA:(p.ens.take (i+1)).map (fun e=>e.id)=(p.ens.take i).map (fun e=>e.id)++[e.id]:=by simp[zzax,he]
   rw[Ze he,tZ,<- bA]at ha;obtain⟨S,hS⟩:∃S,(p.ens.take i).map (fun e=>e.id)=S:=⟨_,rfl⟩;rw[hS]at ha bA |-
   have h1:=Yx e.id 1 1000000;have hae:=fP e (zzad he);obtain⟨s1,s2⟩:=asN e.id S 0;have bad:ru p S e=false->mA p=false:=fun h=>by rw[h]at ha;simp[mA,<- ha]
   cases e1:wi e.id 1 1000000 with
   |false=>
    rw[e1]at h1;simp[h20,h3,ai,aa,ah,Qd,bW,Qa,xJ,e1,qu,rY];exact⟨h1,pL _ rfl (Idle.bool _) (hK _ (bad (by simp[ru,e1])))⟩
   |true=>
    rw[e1]at h1;by_cases e2:e.id∈S
    ·obtain⟨n,s1⟩:=s1 e2;simp[h20,h3,ai,aa,ah,Qd,bW,Qa,xJ,e1,s1,qu,rY];exact⟨h1,pL _ rfl (Idle.bool _) (hK _ (bad (by simp[ru,e1,e2])))⟩
    have s2:=s2 e2;simp[h20,h3,ai,aa,ah,Qd,bW,Qa,xJ,e1,s2,qu];refine⟨h1,al7 p e (mK p.bks) ([.aJ 0 (mS S)]::(bx++[Qd e])) KR dG Y _ fun b hb=>?_⟩;cases b with
    |false=>
     simp[rY];exact pL _ rfl (Idle.bool _) (hK _ (bad (by simp[ru,e1,e2,hb])))
    |true=>
     simp[bW,Qa,Qd,xJ];refine al9 p e hae KQ (mK p.bks) ([.aJ 0 (mS S)]::(bx++[Qd e])) Y _ fun b fT=>?_;cases b with
     |false=>
      simp[rY];exact pL _ rfl (Idle.bool _) (hK _ (bad (by simp[ru,e1,e2,hb,fT])))
     |true=>
      simp[bW,Qa,Qd,xJ];refine QO p e hae (mI p.aM) ([.aJ 0 (mS S)]::(bx++[Qd e])) Y _ fun b hb3=>?_;cases b with
      |false=>
       simp[rY];exact pL _ rfl (Idle.bool _) (hK _ (bad (by simp[ru,e1,e2,hb,fT,hb3])))
      |true=>
       have bU:ru p S e=true:=by simp[ru,e1,e2,hb,fT,hb3]
       rw[bU,zzea]at ha;simp[h20,h3,bW,Qa,Qd,xJ,s2,hw,qu];refine⟨aQ,⟨i+1,bx++[Qd e],zd,zE,ha,by simp[h3],?_⟩,zE⟩
       ·rw[bA];simp[bW,Qa,Qd,mS]
  have bP:¬(i:Int)<(p.ens.length:Int):=zE
  rw[zzal bn]at ha;have ha:tZ p [] p.ens=true:=by rw[<- ha];rfl
  simp[h20,bP,zzbk.2 bn,qu,rY,bW,Qa];exact pL _ rfl (Idle.bool _) (hK _ (by simp[mA,h0,ha]))
 have zq:(4000:Int)<(p.ens.length:Int):=zE
 simp[MM,rY,bW,Qa,h0,zq];exact pL [] zd (Idle.bool _) (hK _ (by simp[mA,h0]))
open Go Go.Abs
def iG(p:Pl):Bool:=Jo p&&(Sr p&&(XZ p&&(mA p&&Qbs p)))
def pN(p:Pl):UV:=fun _ f _=>if f=153 then .bool (Jo p)else if f=157 then .bool (Qbs p)else .gd false .junk
def PlS(p:Pl):Prop:=p.sh.length<=1000000000/\p.aM.length<=1000000000/\p.ens.length<=1000000000/\p.bks.length<=8796093022208/\p.cls.length<=1000000000/\∀e∈p.ens,e.al.length<=8796093022208
def Wu(p:Pl)(h:PlS p):Pure Tryz.prog aD 95 [.agg (Qa p)] (.bool (iG p)):=by
 obtain⟨l1,l2,l3,l4,l5,l6⟩:=h;have k44:=aeq p l1;have k48:=QK p l5;refine Qp akC (pN p) zd ?_;cases e1:Jo p with
 |false=>
  rw[e1]at k44;simp[akB,O5,Qa,pN,iG,e1];simpa[Qa]using k44
 |true=>
  rw[e1]at k44
  have hs:(1<=p.rg/\p.rg<=8)/\(1<=p.ln/\p.ln<=100000000):=by
   simp[Jo,wi]at e1;omega
  simp[akB,Qa,pN,iG,e1];refine⟨by simpa[Qa]using k44,?_⟩;refine aev p l2 Y0 _ (fun e2=>?_) (fun e2 kI=>?_)
  ·simp[bW,Qa,pN,e2];refine aew p l4 hs.1 Y0 _ (fun e3=>?_) (fun e3 kB=>?_)
   ·simp[bW,Qa,pN,e3]
    have KR:xG p.aM=true:=by
     simp[Sr]at e2;exact e2.2.2.1
    refine QS p l3 l6 KR hs.1 hs.2 Y0 _ fun b e4=>?_;cases b with
    |false=>simp[O5,bW,Qa,pN,e4]
    |true=>
     simp[O5,bW,Qa,pN,e4];simpa[Qa]using k48
   simp[O5,bW,Qa,pN,e3]
  simp[O5,bW,Qa,pN,e2]
