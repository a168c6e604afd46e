import Derived.Test.YthjppoincojfkaaGreatDoorRPSpG
import Derived.Test.YthjppoincojfkaaGreatDoorRPTcA
set_option linter.all false
set_option maxRecDepth 100000
set_option maxHeartbeats 64000000
namespace Go.Proofs.YthjppoincojfkaaGreatDoor
open Go Go.Abs
def Yx(n lo up:Int):Pure Tryz.prog aD 204 [I n,I lo,I up] (.bool (wi n lo up)):=by
 refine Qp adg (fun _ _ _=>.junk) zd ?_;by_cases h1:lo<=n<;>by_cases h2:n<=up<;>simp[ahM,ahN,wi,h1,h2]
def ai5(e:It):Pure Tryz.prog aD 37 [.agg (Qj e)] (I e.id):=by
 refine Qp SU (fun _ _ _=>.junk) zd ?_;simp[ajY,Qj,ajZ]
def xu(e:Bk):Pure Tryz.prog aD 207 [.agg (Xl e)] (I e.id):=by
 refine Qp adj (fun _ _ _=>.junk) zd ?_;simp[ahO,Xl,ahP]
def xw(e:Sp):Pure Tryz.prog aD 239 [.agg (Qf e)] (I e.1):=by
 refine Qp ady (fun _ _ _=>.junk) zd ?_;simp[ah1,Qf,ah2]
def Sx(k:Int):Option Int->Bool
 |some q=>decide (k<=q)
 |none=>false
def We(lo up:Int):Option Int->Pi->Bool
 |_,[]=>true
 |pr,k::r=>if k<lo\/up<k\/Sx k pr=true then false else We lo up (some k) r
def IG(ks:Pi):Nat->Option Int
 |0=>none
 |i+1=>ks[i]?
def Qec{ks:Pi}{i:Nat}{k:Int}(h:ks[i]?=some k):IG ks (i+1)=some k:=h
def keyOf:P2->Int
 |[.agg (.int _ n::_)]=>n
 |_=>0
def iq:UV:=fun _ _ l=>I (keyOf l)
def ru{lo up:Int}{ks:Pi}{i:Nat}{k:Int}(h:ks[i]?=some k):We lo up (IG ks i) (ks.drop i)=if k<lo\/up<k\/Sx k (IG ks i)=true then false else We lo up (IG ks (i+1)) (ks.drop (i+1)):=by
 obtain⟨hi,hk⟩:=zza.1 h;rw[zzag hi,hk,We,Qec h]
def N0(s n:Nat)(R:Nat->Prop)(f:Nat->AV)(m:AM):Prop:=∃(i:Nat)(bx:T5),f s=I i/\i<=n/\R i/\m=⟨bx,[],fun _=>.gone,0⟩
def QF(L:List It)(lo up:Int)(hl:L.length<=8796093022208):Pure Tryz.prog aD 205 [.sl .ro (L.map Qj),I lo,I up,.fn 37 [] []] (.bool (We lo up none (L.map fun x=>x.id))):=by
 obtain⟨T,hT⟩:∃T,We lo up none (L.map fun x=>x.id)=T:=⟨_,rfl⟩;rw[hT];refine Qp adh iq zd ?_;simp[T6];refine Qi mQ (N0 14 L.length fun i=>We lo up (IG (L.map fun x=>x.id) i) ((L.map fun x=>x.id).drop i)=T) (fun f _=>L.length-(numOf (f 14)).toNat) ?_ ?_
 ·exact⟨0,_,zd,zE,by simpa[IG]using hT,rfl⟩
 rintro f m ⟨i,bx,tT,hi,ha,rfl⟩;rcases zzaa i L.length with ai|bq
 ·obtain⟨x,hx⟩:=aV ai;have ah:Qh (L.map Qj) i=Qj x:=Qu (by simp[hx]);have aa:(i:Int)<(L.length:Int):=zE
  have hw:=bP i zE;have hk:=ai5 x;have XW:(L.map fun x=>x.id)[i]?=some x.id:=by simp[hx]
  rw[ru XW]at ha;by_cases c1:x.id<lo
  ·rw[if_pos (.inl c1)]at ha;subst ha;simp[tT,ai,aa,ah,Qj,iq,keyOf,c1,mQ,vr];simpa[Qj]using hk
  by_cases c2:up<x.id
  ·rw[if_pos (.inr (.inl c2))]at ha;subst ha;simp[tT,ai,aa,ah,Qj,iq,keyOf,c1,c2,mQ,vr];simpa[Qj]using hk
  cases i with
  |zero=>
   rw[if_neg (by simp[c1,c2,IG,Sx])]at ha;have lM:IntKind.i64.wrap 1=1:=by decide
   simp[tT,ai,aa,ah,Qj,iq,keyOf,c1,c2,mQ,vr,hw,lM];refine⟨by simpa[Qj]using hk,aQ,⟨1,_,zd,zE,ha,rfl⟩,zE⟩
  |succ j=>
   have dH:j<L.length:=zE
   have sO:(j:Int)<(L.length:Int):=zE
   obtain⟨y,hy⟩:=aV dH;have sP:Qh (L.map Qj) j=Qj y:=Qu (by simp[hy]);have hky:=ai5 y;have sQ:IG (L.map fun x=>x.id) (j+1)=some y.id:=Qec (by simp[hy]);have II:IntKind.i64.wrap (((j+1:Nat):Int)-1)=(j:Int):=by rw[Ql]<;>omega
   have Ge:IntKind.i64.wrap ((j:Int)+1-1)=(j:Int):=by rw[Ql]<;>omega
   have tU:IntKind.i64.wrap (j:Int)=(j:Int):=by rw[Ql]<;>omega
   have dW:(0:Int)<(j:Int)+1:=zE
   have hj0:(0:Int)<=(j:Int):=zE
   have Gf:(0:Int)<=(j:Int)+1:=zE
   have N1:¬(j:Int)<0:=zE
   have Gg:(j:Int)+1<(L.length:Int):=zE
   have fQ:IntKind.i64.wrap ((j:Int)+1+1)=((j+1+1:Nat):Int):=by rw[Ql]<;>omega
   by_cases c3:x.id<=y.id
   ·rw[if_pos (.inr (.inr (by rw[sQ];simp[Sx,c3])))]at ha;subst ha;simp[tT,ai,aa,Gg,dW,hj0,Gf,N1,II,Ge,tU,dH,sO,ah,sP,Qj,iq,keyOf,c1,c2,c3,mQ,vr];exact⟨by simpa[Qj]using hk,by simpa[Qj]using hky⟩
   rw[if_neg (by rw[sQ];simp[c1,c2,c3,Sx])]at ha;simp[tT,ai,aa,Gg,dW,hj0,Gf,N1,II,Ge,tU,dH,sO,ah,sP,Qj,iq,keyOf,c1,c2,c3,mQ,vr,fQ];refine⟨by simpa[Qj]using hk,by simpa[Qj]using hky,aQ,⟨j+1+1,_,zd,zE,ha,rfl⟩,zE⟩
 obtain rfl:i=L.length:=zE
 rw[zzal zd]at ha;have ha:true=T:=by rw[<- ha];simp[We]
 subst ha;simp[tT,mQ,vr]
def QG(L:List Bk)(lo up:Int)(hl:L.length<=8796093022208):Pure Tryz.prog aD 206 [.sl .ro (L.map Xl),I lo,I up,.fn 207 [] []] (.bool (We lo up none (L.map fun x=>x.id))):=by
 obtain⟨T,hT⟩:∃T,We lo up none (L.map fun x=>x.id)=T:=⟨_,rfl⟩;rw[hT];refine Qp adi iq zd ?_;simp[T7];refine Qi mR (N0 14 L.length fun i=>We lo up (IG (L.map fun x=>x.id) i) ((L.map fun x=>x.id).drop i)=T) (fun f _=>L.length-(numOf (f 14)).toNat) ?_ ?_
 ·exact⟨0,_,zd,zE,by simpa[IG]using hT,rfl⟩
 rintro f m ⟨i,bx,tT,hi,ha,rfl⟩;rcases zzaa i L.length with ai|bq
 ·obtain⟨x,hx⟩:=aV ai;have ah:Qh (L.map Xl) i=Xl x:=Qu (by simp[hx]);have aa:(i:Int)<(L.length:Int):=zE
  have hw:=bP i zE;have hk:=xu x;have XW:(L.map fun x=>x.id)[i]?=some x.id:=by simp[hx]
  rw[ru XW]at ha;by_cases c1:x.id<lo
  ·rw[if_pos (.inl c1)]at ha;subst ha;simp[tT,ai,aa,ah,Xl,iq,keyOf,c1,mR,vu];simpa[Xl]using hk
  by_cases c2:up<x.id
  ·rw[if_pos (.inr (.inl c2))]at ha;subst ha;simp[tT,ai,aa,ah,Xl,iq,keyOf,c1,c2,mR,vu];simpa[Xl]using hk
  cases i with
  |zero=>
   rw[if_neg (by simp[c1,c2,IG,Sx])]at ha;have lM:IntKind.i64.wrap 1=1:=by decide
   simp[tT,ai,aa,ah,Xl,iq,keyOf,c1,c2,mR,vu,hw,lM];refine⟨by simpa[Xl]using hk,aQ,⟨1,_,zd,zE,ha,rfl⟩,zE⟩
  |succ j=>
   have dH:j<L.length:=zE
   have sO:(j:Int)<(L.length:Int):=zE
   obtain⟨y,hy⟩:=aV dH;have sP:Qh (L.map Xl) j=Xl y:=Qu (by simp[hy]);have hky:=xu y;have sQ:IG (L.map fun x=>x.id) (j+1)=some y.id:=Qec (by simp[hy]);have II:IntKind.i64.wrap (((j+1:Nat):Int)-1)=(j:Int):=by rw[Ql]<;>omega
   have Ge:IntKind.i64.wrap ((j:Int)+1-1)=(j:Int):=by rw[Ql]<;>omega
   have tU:IntKind.i64.wrap (j:Int)=(j:Int):=by rw[Ql]<;>omega
   have dW:(0:Int)<(j:Int)+1:=zE
   have hj0:(0:Int)<=(j:Int):=zE
   have Gf:(0:Int)<=(j:Int)+1:=zE
   have N1:¬(j:Int)<0:=zE
   have Gg:(j:Int)+1<(L.length:Int):=zE
   have fQ:IntKind.i64.wrap ((j:Int)+1+1)=((j+1+1:Nat):Int):=by rw[Ql]<;>omega
   by_cases c3:x.id<=y.id
   ·rw[if_pos (.inr (.inr (by rw[sQ];simp[Sx,c3])))]at ha;subst ha;simp[tT,ai,aa,Gg,dW,hj0,Gf,N1,II,Ge,tU,dH,sO,ah,sP,Xl,iq,keyOf,c1,c2,c3,mR,vu];exact⟨by simpa[Xl]using hk,by simpa[Xl]using hky⟩
   rw[if_neg (by rw[sQ];simp[c1,c2,c3,Sx])]at ha;simp[tT,ai,aa,Gg,dW,hj0,Gf,N1,II,Ge,tU,dH,sO,ah,sP,Xl,iq,keyOf,c1,c2,c3,mR,vu,fQ];refine⟨by simpa[Xl]using hk,by simpa[Xl]using hky,aQ,⟨j+1+1,_,zd,zE,ha,rfl⟩,zE⟩
 obtain rfl:i=L.length:=zE
 rw[zzal zd]at ha;have ha:true=T:=by rw[<- ha];simp[We]
 subst ha;simp[tT,mR,vu]
def QH(L:List Sp)(lo up:Int)(hl:L.length<=8796093022208):Pure Tryz.prog aD 238 [.sl .ro (L.map Qf),I lo,I up,.fn 239 [] []] (.bool (We lo up none (L.map fun x=>x.1))):=by
 obtain⟨T,hT⟩:∃T,We lo up none (L.map fun x=>x.1)=T:=⟨_,rfl⟩;rw[hT];refine Qp adx iq zd ?_;simp[UE];refine Qi mT (N0 14 L.length fun i=>We lo up (IG (L.map fun x=>x.1) i) ((L.map fun x=>x.1).drop i)=T) (fun f _=>L.length-(numOf (f 14)).toNat) ?_ ?_
 ·exact⟨0,_,zd,zE,by simpa[IG]using hT,rfl⟩
 rintro f m ⟨i,bx,tT,hi,ha,rfl⟩;rcases zzaa i L.length with ai|bq
 ·obtain⟨x,hx⟩:=aV ai;have ah:Qh (L.map Qf) i=Qf x:=Qu (by simp[hx]);have aa:(i:Int)<(L.length:Int):=zE
  have hw:=bP i zE;have hk:=xw x;have XW:(L.map fun x=>x.1)[i]?=some x.1:=by simp[hx]
  rw[ru XW]at ha;by_cases c1:x.1<lo
  ·rw[if_pos (.inl c1)]at ha;subst ha;simp[tT,ai,aa,ah,Qf,iq,keyOf,c1,mT,vz];simpa[Qf]using hk
  by_cases c2:up<x.1
  ·rw[if_pos (.inr (.inl c2))]at ha;subst ha;simp[tT,ai,aa,ah,Qf,iq,keyOf,c1,c2,mT,vz];simpa[Qf]using hk
  cases i with
  |zero=>
   rw[if_neg (by simp[c1,c2,IG,Sx])]at ha;have lM:IntKind.i64.wrap 1=1:=by decide
   simp[tT,ai,aa,ah,Qf,iq,keyOf,c1,c2,mT,vz,hw,lM];refine⟨by simpa[Qf]using hk,aQ,⟨1,_,zd,zE,ha,rfl⟩,zE⟩
  |succ j=>
   have dH:j<L.length:=zE
   have sO:(j:Int)<(L.length:Int):=zE
   obtain⟨y,hy⟩:=aV dH;have sP:Qh (L.map Qf) j=Qf y:=Qu (by simp[hy]);have hky:=xw y;have sQ:IG (L.map fun x=>x.1) (j+1)=some y.1:=Qec (by simp[hy]);have II:IntKind.i64.wrap (((j+1:Nat):Int)-1)=(j:Int):=by rw[Ql]<;>omega
   have Ge:IntKind.i64.wrap ((j:Int)+1-1)=(j:Int):=by rw[Ql]<;>omega
   have tU:IntKind.i64.wrap (j:Int)=(j:Int):=by rw[Ql]<;>omega
   have dW:(0:Int)<(j:Int)+1:=zE
   have hj0:(0:Int)<=(j:Int):=zE
   have Gf:(0:Int)<=(j:Int)+1:=zE
   have N1:¬(j:Int)<0:=zE
   have Gg:(j:Int)+1<(L.length:Int):=zE
   have fQ:IntKind.i64.wrap ((j:Int)+1+1)=((j+1+1:Nat):Int):=by rw[Ql]<;>omega
   by_cases c3:x.1<=y.1
   ·rw[if_pos (.inr (.inr (by rw[sQ];simp[Sx,c3])))]at ha;subst ha;simp[tT,ai,aa,Gg,dW,hj0,Gf,N1,II,Ge,tU,dH,sO,ah,sP,Qf,iq,keyOf,c1,c2,c3,mT,vz];exact⟨by simpa[Qf]using hk,by simpa[Qf]using hky⟩
   rw[if_neg (by rw[sQ];simp[c1,c2,c3,Sx])]at ha;simp[tT,ai,aa,Gg,dW,hj0,Gf,N1,II,Ge,tU,dH,sO,ah,sP,Qf,iq,keyOf,c1,c2,c3,mT,vz,fQ];refine⟨by simpa[Qf]using hk,by simpa[Qf]using hky,aQ,⟨j+1+1,_,zd,zE,ha,rfl⟩,zE⟩
 obtain rfl:i=L.length:=zE
 rw[zzal zd]at ha;have ha:true=T:=by rw[<- ha];simp[We]
 subst ha;simp[tT,mT,vz]
def Jn(p:Pl):Bool:=wi p.ch 0 39&&(Vd p.nu p.de&&(Yh p.of p.sh&&(wi p.ep 0 9000000000&&(wi p.rg 1 8&&wi p.ln 1 100000000))))
def xx(p:Pl):UV:=fun _ f l=>
 if f=132 then .bool (Vd p.nu p.de)else if f=133 then .bool (Yh p.of p.sh)else(match l with|[.int _ n,.int _ lo,.int _ up]=>.bool (wi n lo up)|_=>.junk)
def aeA(p:Pl)(fA:p.sh.length<=1000000000):Pure Tryz.prog aD 153 [.ep (Qa p++[.junk,.junk]) 0] (.bool (Jn p)):=by
 have h1:=Yx p.ch 0 39;have h2:=Wx p.nu p.de;have h3:=jr p.of p.sh fA;have h4:=Yx p.ep 0 9000000000;have h5:=Yx p.rg 1 8;have h6:=Yx p.ln 1 100000000;refine Qp acD (xx p) zd ?_;cases e1:wi p.ch 0 39 with
 |false=>rw[e1]at h1;simp[vi,vj,Qa,xx,Jn,e1];exact h1
 |true=>
  rw[e1]at h1;cases e2:Vd p.nu p.de with
  |false=>rw[e2]at h2;simp[vi,vj,Qa,xx,Jn,e1,e2];exact⟨h1,h2⟩
  |true=>
   rw[e2]at h2;cases e3:Yh p.of p.sh with
   |false=>rw[e3]at h3;simp[vi,vj,Qa,xx,Jn,e1,e2,e3];exact⟨h1,h2,h3⟩
   |true=>
    rw[e3]at h3;cases e4:wi p.ep 0 9000000000 with
    |false=>rw[e4]at h4;simp[vi,vj,Qa,xx,Jn,e1,e2,e3,e4];exact⟨h1,h2,h3,h4⟩
    |true=>
     rw[e4]at h4;cases e5:wi p.rg 1 8 with
     |false=>rw[e5]at h5;simp[vi,vj,Qa,xx,Jn,e1,e2,e3,e4,e5];exact⟨h1,h2,h3,h4,h5⟩
     |true=>rw[e5]at h5;simp[vi,vj,Qa,xx,Jn,e1,e2,e3,e4,e5];exact⟨h1,h2,h3,h4,h5,h6⟩
def aeB:List Cl->Bool
 |[]=>true
 |c::r=>Zc c&&aeB r
def Qds(p:Pl):Bool:=decide (p.cls.length<=400)&&aeB p.cls
def A9:UV:=fun _ _ l=>match l with
 |[.agg [.int _ a,.int _ b,.int _ c,.int _ d,.int _ e,.int _ f,.int _ g,.int _ h]]=>.bool (Zc ⟨a,b,c,d,e,f,g,h⟩)
 |_=>.junk
def QI(p:Pl)(hc:p.cls.length<=1000000000):Pure Tryz.prog aD 157 [.ep (Qa p++[.junk,.junk]) 0] (.bool (Qds p)):=by
 refine Qp acH A9 zd ?_;by_cases h0:p.cls.length<=400
 ·have zk:¬(400:Int)<(p.cls.length:Int):=zE
  obtain⟨T,hT⟩:∃T,Qds p=T:=⟨_,rfl⟩;rw[hT];simp[TP,Qa,h0,zk];refine Qi B6 (N0 18 p.cls.length fun i=>aeB (p.cls.drop i)=T) (fun f _=>p.cls.length-(numOf (f 18)).toNat) ?_ ?_
  ·exact⟨0,_,zd,zE,by rw[<- hT];simp[Qds,h0],rfl⟩
  rintro f m ⟨i,bx,h18,hi,ha,rfl⟩;rcases zzaa i p.cls.length with ai|bq
  ·obtain⟨x,hx⟩:=aV ai;have ah:Qh (p.cls.map Qg) i=Qg x:=Qu (by simp[hx]);have aa:(i:Int)<(p.cls.length:Int):=zE
   have hw:=bP i zE;have hk:=Wi x;rw[Za hx,aeB]at ha;cases hv:Zc x with
   |false=>
    rw[hv]at ha hk;simp at ha;simp[h18,ai,aa,ah,Qg,A9,hv,B6,Ex,ha];simpa[Qg]using hk
   |true=>
    rw[hv]at ha hk;simp at ha;simp[h18,ai,aa,ah,Qg,A9,hv,B6,Ex,hw];refine⟨by simpa[Qg]using hk,aQ,⟨i+1,_,zd,zE,ha,rfl⟩,zE⟩
  obtain rfl:i=p.cls.length:=zE
  rw[zzbu]at ha;have ha:true=T:=ha;subst ha;simp[h18,B6,Ex]
 have zk:(400:Int)<(p.cls.length:Int):=zE
 simp[TP,Ex,Qa,Qds,h0,zk]
open Go Go.Abs
def mI(l:List It):List (Pi×AV):=l.map fun x=>([x.id],.agg (Qj x))
def mK(l:List Bk):List (Pi×AV):=l.map fun x=>([x.id],.agg (Xl x))
def Gh(id:Int):List Bk->Option Bk
 |[]=>none
 |x::r=>if x.id=id then some x else Gh id r
def xy{k:Pi}:∀{kvs:List (Pi×AV)}{i:Nat},(∀p∈kvs,p.1≠k)->Xk k kvs i=none
 |[],_,_=>rfl
 |(k',a)::r,i,h=>by
  rw[Xk,if_neg (fun e=>h (k',a) zd e.symm)];exact xy fun p hp=>h p (by simp[hp])
def amn(id:Int):∀(l:List It)(i:Nat),(Xj id l=none->Xk [id] (mI l) i=none)/\∀x,Xj id l=some x->∃n,Xk [id] (mI l) i=some (n,.agg (Qj x))
 |[],i=>⟨fun _=>rfl,fun x h=>by cases h⟩
 |y::r,i=>by
  have ih:=amn id r (i+1);simp only[mI,zzbb,Xk,Xj]at ih |-
  by_cases h:y.id=id
  ·rw[if_pos h,if_pos (by rw[h])];exact⟨fun h=>(by cases h),fun x h=>(by cases h;exact⟨i,rfl⟩)⟩
  rw[if_neg h,if_neg (by intro e;cases e;exact h rfl)];exact ih
def asV(id:Int):∀(l:List Bk)(i:Nat),(Gh id l=none->Xk [id] (mK l) i=none)/\∀x,Gh id l=some x->∃n,Xk [id] (mK l) i=some (n,.agg (Xl x))
 |[],i=>⟨fun _=>rfl,fun x h=>by cases h⟩
 |y::r,i=>by
  have ih:=asV id r (i+1);simp only[mK,zzbb,Xk,Gh]at ih |-
  by_cases h:y.id=id
  ·rw[if_pos h,if_pos (by rw[h])];exact⟨fun h=>(by cases h),fun x h=>(by cases h;exact⟨i,rfl⟩)⟩
  rw[if_neg h,if_neg (by intro e;cases e;exact h rfl)];exact ih
def kR{lo up:Int}:∀{ks:Pi}{pr:Option Int},We lo up pr ks=true->ks.Pairwise (·<·)/\∀k∈ks,lo<=k/\k<=up/\∀q,pr=some q->q<k
 |[],pr,_=>⟨List.Pairwise.nil,fun k hk=>by cases hk⟩
 |k::r,pr,h=>by
  rw[We]at h;split at h
  ·cases h
  rename_i hn;simp only[not_or]at hn;obtain⟨h1,h2⟩:=kR h
  have hk:∀q,pr=some q->q<k:=fun q hq=>by
   have:=hn.2.2;subst hq;simp[Sx]at this;omega
  refine⟨zzby.2 ⟨fun a ha=>(h2 a ha).2.2 k rfl,h1⟩,fun a ha=>?_⟩;rcases zzap.1 ha with rfl|ha
  ·exact⟨zE,zE,hk⟩
  obtain⟨g1,g2,g3⟩:=h2 a ha;refine⟨g1,g2,fun q hq=>?_⟩;have:=hk q hq;have:=g3 k rfl;omega
def xA{α:Type}{key:α->Int}{row:α->AV}{l:List α}{i:Nat}{x:α}(h:(l.map key).Pairwise (·<·))(hx:l[i]?=some x):Xk [key x] ((l.take i).map fun x=>([key x],row x)) 0=none:=by
 refine xy fun p hp=>?_;obtain⟨y,hy,rfl⟩:=zzar.1 hp;obtain⟨j,hj,ov⟩:=zzfu hy;rw[zzaq]at hj;rw[List.getElem_take]at ov;obtain⟨hi,hx⟩:=zza.1 hx
 have ai:key l[j]<key l[i]:=by
  have:=zzdr.1 h j i (by simp;omega) (Nm hi) zE;simpa using this
 intro e;rw[<- ov,<- hx]at e;simp only[List.cons.injEq,and_true]at e;omega
def Sy(x:It):Bool:=wi x.ki 1 5&&(wi x.fr 1 100000000&&(wi x.sp 0 200&&wi x.ra 0 3))
def xB:List It->Bool
 |[]=>true
 |x::r=>Sy x&&xB r
def gM(p:Pl):Bool:=match Xj p.fi p.aM with
 |some x=>decide (x.ki=5)
 |none=>false
def SA(p:Pl):Bool:=decide (p.aM.length<=4000)&&(We 1 1000000 none (p.aM.map fun x=>x.id)&&(xB p.aM&&gM p))
def bW(p:Pl)(kI kB:List (Pi×AV))(bx:T5):AM:=⟨Qa p::[.aJ 0 kI]::[.aJ 0 kB]::(Qa p++[.mp 1,.mp 2])::bx,[],fun _=>.gone,0⟩
def aeC(x:It):Idle (.agg (Qj x)):=Idle.agg fun c hc=>by
 simp only[Qj,zzap,zzdl,or_false]at hc;rcases hc with rfl|rfl|rfl|rfl|rfl<;>exact Idle.int _ _
def aeD(x:Bk):Idle (.agg (Xl x)):=Idle.agg fun c hc=>by
 simp only[Xl,zzap,zzdl,or_false]at hc;rcases hc with rfl|rfl|rfl|rfl|rfl|rfl|rfl<;>exact Idle.int _ _
def BkK(p:Pl)(K:So)(r:AV)(m:AM):Prop:=∃kI kB bx,m=bW p kI kB bx/\(∀e∈kI,Idle e.2)/\(∀e∈kB,Idle e.2)/\Idle r/\K r (bW p kI kB [])
def Ba{p:Pl}{K:So}{r:AV}{m:AM}(kI kB:List (Pi×AV))(bx:T5)(hm:m=bW p kI kB bx)(h1:∀e∈kI,Idle e.2)(h2:∀e∈kB,Idle e.2)(h3:Idle r)(h4:K r (bW p kI kB [])):BkK p K r m:=⟨kI,kB,bx,hm,h1,h2,h3,h4⟩
def sR{f:FuncId}{xs:P2}{p:Pl}{Y:YT}{k0 b0:List (Pi×AV)}{K:So}
  (h:aB Tryz.prog aD Y f xs (bW p k0 b0 []) (BkK p K)):aB Tryz.prog aD Y f xs (bW p k0 b0 []) K:=by
 refine aB.forget (aB.mono h ?_);rintro r m' ⟨kI,kB,bx,rfl,h1,h2,h3,h4⟩;refine⟨bW p kI kB [],bx,rfl,rfl,rfl,fun id cells hc=>?_,h3,h4⟩
 match id,hc with
 |0,hc=>exact .inl hc
 |1,hc=>cases hc;exact .inr (.inr ⟨0,kI,rfl,h1⟩)
 |2,hc=>cases hc;exact .inr (.inr ⟨0,kB,rfl,h2⟩)
 |3,hc=>exact .inl hc
 |n+4,hc=>cases hc
def pN(p:Pl):UV:=fun _ f l=>
 if f=205 then .bool (We 1 1000000 none (p.aM.map fun x=>x.id))else(match l with|[.int _ n,.int _ lo,.int _ up]=>.bool (wi n lo up)|_=>.junk)
def Vx(l:List It):∀e∈mI l,Idle e.2:=fun e he=>by
 obtain⟨x,_,rfl⟩:=zzar.1 he;exact aeC x
def Qbc(l:List Bk):∀e∈mK l,Idle e.2:=fun e he=>by
 obtain⟨x,_,rfl⟩:=zzar.1 he;exact aeD x
def aeE{l:List It}{i:Nat}{x:It}(h:l[i]?=some x):mI (l.take (i+1))=mI (l.take i)++[([x.id],.agg (Qj x))]:=by
 simp[mI,zzb,h]
def aeF{l:List Bk}{i:Nat}{x:Bk}(h:l[i]?=some x):mK (l.take (i+1))=mK (l.take i)++[([x.id],.agg (Xl x))]:=by
 simp[mK,zzb,h]
def Uy{P:Pi×AV->Prop}:∀e∈([]:List (Pi×AV)),P e:=fun e h=>by cases h
def ai6(s n:Nat)(p:Pl)(kI kB:Nat->List (Pi×AV))(R:Nat->Prop)(f:Nat->AV)(m:AM):Prop:=∃(i:Nat)(bx:T5),f s=I i/\i<=n/\R i/\m=bW p (kI i) (kB i) bx
def aeG(p:Pl)(hl:p.aM.length<=1000000000)(Y:YT)(K:So)(VG:SA p=true->K (.bool true) (bW p (mI p.aM) [] []))(ry:SA p=false->∀kI,K (.bool false) (bW p kI [] [])):
  aB Tryz.prog aD Y 154 [.ptr 3 0] (bW p [] [] []) K:=by
 have k90:=QF p.aM 1 1000000 zE;refine sR ?_;refine Xn acE (pN p) zd ?_;by_cases h0:p.aM.length<=4000
 ·have zk:¬(4000:Int)<(p.aM.length:Int):=zE
  cases ha:We 1 1000000 none (p.aM.map fun x=>x.id)with
  |false=>
   rw[ha]at k90;simp[Eu,oF,bW,Qa,h0,zk,pN,ha];exact⟨k90,Ba _ _ _ rfl Uy Uy (Idle.bool _) (ry (by simp[SA,ha]) [])⟩
  |true=>
   rw[ha]at k90;have hp:=(kR ha).1;simp[Eu,bW,Qa,h0,zk,pN,ha];refine⟨k90,?_⟩;refine Qi iJ (ai6 27 p.aM.length p (fun i=>mI (p.aM.take i)) (fun _=>[]) fun i=>xB (p.aM.drop i)=xB p.aM) (fun f _=>p.aM.length-(numOf (f 27)).toNat) ?_ ?_
   ·exact⟨0,[],zd,zE,zd,by simp[bW,Qa,mI]⟩
   rintro f m ⟨i,bx,h27,hi,fK,rfl⟩;rcases zzaa i p.aM.length with ai|bq
   ·obtain⟨x,hx⟩:=aV ai;have ah:Qh (p.aM.map Qj) i=Qj x:=Qu (by simp[hx]);have aa:(i:Int)<(p.aM.length:Int):=zE
    have hw:=bP i zE;have hkf:Xk [x.id] (mI (p.aM.take i)) 0=none:=xA (key:=fun x=>x.id) (row:=fun x=>.agg (Qj x)) hp hx;have bA:=aeE hx;rw[Za hx,xB]at fK;have h1:=Yx x.ki 1 5;have h2:=Yx x.fr 1 100000000;have h3:=Yx x.sp 0 200;have h4:=Yx x.ra 0 3;have bad:Sy x=false->SA p=false:=fun h=>by rw[h]at fK;simp[SA,<- fK]
    cases e1:wi x.ki 1 5 with
    |false=>
     rw[e1]at h1;simp[h27,ai,aa,ah,Qj,bW,Qa,pN,e1,iJ,oF];exact⟨h1,Ba _ _ _ rfl (Vx _) Uy (Idle.bool _) (ry (bad (by simp[Sy,e1])) _)⟩
    |true=>
     rw[e1]at h1;cases e2:wi x.fr 1 100000000 with
     |false=>
      rw[e2]at h2;simp[h27,ai,aa,ah,Qj,bW,Qa,pN,e1,e2,iJ,oF];exact⟨h1,h2,Ba _ _ _ rfl (Vx _) Uy (Idle.bool _) (ry (bad (by simp[Sy,e1,e2])) _)⟩
     |true=>
      rw[e2]at h2;cases e3:wi x.sp 0 200 with
      |false=>
       rw[e3]at h3;simp[h27,ai,aa,ah,Qj,bW,Qa,pN,e1,e2,e3,iJ,oF];exact⟨h1,h2,h3,Ba _ _ _ rfl (Vx _) Uy (Idle.bool _) (ry (bad (by simp[Sy,e1,e2,e3])) _)⟩
      |true=>
       rw[e3]at h3;cases e4:wi x.ra 0 3 with
       |false=>
        rw[e4]at h4;simp[h27,ai,aa,ah,Qj,bW,Qa,pN,e1,e2,e3,e4,iJ,oF];exact⟨h1,h2,h3,h4,Ba _ _ _ rfl (Vx _) Uy (Idle.bool _) (ry (bad (by simp[Sy,e1,e2,e3,e4])) _)⟩
       |true=>
        rw[e4]at h4;have bU:Sy x=true:=by simp[Sy,e1,e2,e3,e4]
        rw[bU,zzdk]at fK;simp[h27,ai,aa,ah,Qj,bW,Qa,pN,e1,e2,e3,e4,iJ,hw,hkf];refine⟨h1,h2,h3,h4,aQ,⟨i+1,bx++[Qj x],zd,zE,fK,?_⟩,zE⟩
        ·simp only[bA];simp[Qj,bW,Qa]
   have bO:¬(i:Int)<(p.aM.length:Int):=zE
   rw[zzal bq]at fK;have mj:p.aM.take i=p.aM:=zzat bq;simp only[mj];have fK:xB p.aM=true:=by rw[<- fK];rfl
   obtain⟨g1,g2⟩:=amn p.fi p.aM 0;cases hf:Xj p.fi p.aM with
   |none=>
    have g:=g1 hf;simp[h27,bO,iJ,oF,bW,Qa,g];exact Ba _ _ _ rfl (Vx _) Uy (Idle.bool _) (ry (by simp[SA,gM,hf]) _)
   |some x=>
    obtain⟨n,g⟩:=g2 x hf;simp[h27,bO,iJ,oF,bW,Qa,g,Qj];by_cases h5:x.ki=5
    ·simp only[h5];exact Ba _ _ _ rfl (Vx _) Uy (Idle.bool _) (VG (by simp[SA,gM,hf,h0,ha,fK,h5]))
    have h5':(x.ki==5)=false:=by simpa using h5
    rw[h5'];exact Ba _ _ _ rfl (Vx _) Uy (Idle.bool _) (ry (by simp[SA,gM,hf,h5]) _)
 have zk:(4000:Int)<(p.aM.length:Int):=zE
 simp[Eu,oF,bW,Qa,h0,zk,pN];exact Ba _ _ _ rfl Uy Uy (Idle.bool _) (ry (by simp[SA,h0]) [])
open Go Go.Abs
def Dc(x:Bk):Bool:=decide (0<=x.fr)&&(decide (x.fr<x.to)&&(decide (x.to<=x.un)&&decide (x.un<=100000000)))
def kindOf(p:Pl)(id:Int):Int:=match Xj id p.aM with
 |some y=>y.ki
 |none=>0
def XX(p:Pl)(x:Bk):Bool:=decide (kindOf p x.it=2)&&(wi x.re 0 (p.rg-1)&&(Dc x&&wi x.pr 0 1000000000))
def QJ(p:Pl):List Bk->Bool
 |[]=>true
 |x::r=>XX p x&&QJ p r
def jx(p:Pl):Bool:=decide (p.bks.length<=2000)&&(We 1 1000000 none (p.bks.map fun x=>x.id)&&QJ p p.bks)
def Dd(p:Pl)(id:Int):∃r,Xk [id] (mI p.aM) 0=r/\((∃n x,Xj id p.aM=some x/\r=some (n,.agg (Qj x)))\/(Xj id p.aM=none/\r=none)):=by
 obtain⟨g1,g2⟩:=amn id p.aM 0;cases hf:Xj id p.aM with
 |none=>exact⟨_,rfl,.inr ⟨rfl,g1 hf⟩⟩
 |some x=>
  obtain⟨n,g⟩:=g2 x hf;exact⟨_,rfl,.inl ⟨n,x,rfl,g⟩⟩
def QK(p:Pl):UV:=fun _ f l=>
 if f=206 then .bool (We 1 1000000 none (p.bks.map fun x=>x.id))else(match l with|[.int _ n,.int _ lo,.int _ up]=>.bool (wi n lo up)|_=>.junk)
def aeH(p:Pl)(hl:p.bks.length<=8796093022208)(IJ:1<=p.rg/\p.rg<=8)(Y:YT)(K:So)(VG:jx p=true->K (.bool true) (bW p (mI p.aM) (mK p.bks) []))(ry:jx p=false->∀kB,K (.bool false) (bW p (mI p.aM) kB [])):
  aB Tryz.prog aD Y 155 [.ptr 3 0] (bW p (mI p.aM) [] []) K:=by
 have k90:=QG p.bks 1 1000000 hl;refine sR ?_;refine Xn acF (QK p) zd ?_;by_cases h0:p.bks.length<=2000
 ·have zk:¬(2000:Int)<(p.bks.length:Int):=zE
  cases ha:We 1 1000000 none (p.bks.map fun x=>x.id)with
  |false=>
   rw[ha]at k90;simp[Ew,fB,bW,Qa,h0,zk,QK,ha];exact⟨k90,Ba _ _ _ rfl (Vx _) Uy (Idle.bool _) (ry (by simp[jx,ha]) [])⟩
  |true=>
   rw[ha]at k90;have hp:=(kR ha).1;simp[Ew,bW,Qa,h0,zk,QK,ha];refine⟨k90,?_⟩;refine Qi ez (ai6 28 p.bks.length p (fun _=>mI p.aM) (fun i=>mK (p.bks.take i)) fun i=>QJ p (p.bks.drop i)=QJ p p.bks) (fun f _=>p.bks.length-(numOf (f 28)).toNat) ?_ ?_
   ·exact⟨0,[],zd,zE,zd,by simp[bW,Qa,mK]⟩
   rintro f m ⟨i,bx,h28,hi,fK,rfl⟩;rcases zzaa i p.bks.length with ai|bq
   ·obtain⟨x,hx⟩:=aV ai;have ah:Qh (p.bks.map Xl) i=Xl x:=Qu (by simp[hx]);have aa:(i:Int)<(p.bks.length:Int):=zE
    have hw:=bP i zE;have pK:IntKind.i64.wrap (p.rg-1)=p.rg-1:=by rw[Ql]<;>omega
    have hkf:Xk [x.id] (mK (p.bks.take i)) 0=none:=xA (key:=fun x=>x.id) (row:=fun x=>.agg (Xl x)) hp hx;have bA:=aeF hx;rw[Za hx,QJ]at fK;have h1:=Yx x.re 0 (p.rg-1);have h2:=Yx x.pr 0 1000000000;have bad:XX p x=false->jx p=false:=fun h=>by rw[h]at fK;simp[jx,<- fK]
    obtain⟨r,hr,QL⟩:=Dd p x.it;by_cases eO:kindOf p x.it=2
    ·obtain⟨n,y,hf,rfl⟩|⟨hf,rfl⟩:=QL
     ·have hy:y.ki=2:=by simpa[kindOf,hf]using eO
      cases e1:wi x.re 0 (p.rg-1)with
      |false=>
       rw[e1]at h1;simp[h28,ai,aa,ah,Xl,bW,Qa,QK,hr,Qj,hy,pK,e1,ez,fB];exact⟨h1,Ba _ _ _ rfl (Vx _) (Qbc _) (Idle.bool _) (ry (bad (by simp[XX,e1])) _)⟩
      |true=>
       rw[e1]at h1;cases e2:Dc x with
       |false=>
        have e2':¬(0<=x.fr)\/(0<=x.fr/\¬x.fr<x.to)\/(0<=x.fr/\x.fr<x.to/\¬x.to<=x.un)\/(0<=x.fr/\x.fr<x.to/\x.to<=x.un/\¬x.un<=100000000):=by
         simp[Dc]at e2;omega
        obtain c1|⟨c1,c2⟩|⟨c1,c2,c3⟩|⟨c1,c2,c3,c4⟩:=e2'
        ·simp[h28,ai,aa,ah,Xl,bW,Qa,QK,hr,Qj,hy,pK,e1,c1,ez,fB];exact⟨h1,Ba _ _ _ rfl (Vx _) (Qbc _) (Idle.bool _) (ry (bad (by simp[XX,e1,e2])) _)⟩
        ·simp[h28,ai,aa,ah,Xl,bW,Qa,QK,hr,Qj,hy,pK,e1,c1,c2,ez,fB];exact⟨h1,Ba _ _ _ rfl (Vx _) (Qbc _) (Idle.bool _) (ry (bad (by simp[XX,e1,e2])) _)⟩
        ·simp[h28,ai,aa,ah,Xl,bW,Qa,QK,hr,Qj,hy,pK,e1,c1,c2,c3,ez,fB];exact⟨h1,Ba _ _ _ rfl (Vx _) (Qbc _) (Idle.bool _) (ry (bad (by simp[XX,e1,e2])) _)⟩
        simp[h28,ai,aa,ah,Xl,bW,Qa,QK,hr,Qj,hy,pK,e1,c1,c2,c3,c4,ez,fB];exact⟨h1,Ba _ _ _ rfl (Vx _) (Qbc _) (Idle.bool _) (ry (bad (by simp[XX,e1,e2])) _)⟩
       |true=>
        have e2':0<=x.fr/\x.fr<x.to/\x.to<=x.un/\x.un<=100000000:=by
         simp[Dc]at e2;omega
        obtain⟨c1,c2,c3,c4⟩:=e2';cases e3:wi x.pr 0 1000000000 with
        |false=>
         rw[e3]at h2;simp[h28,ai,aa,ah,Xl,bW,Qa,QK,hr,Qj,hy,pK,e1,c1,c2,c3,c4,e3,ez,fB];exact⟨h1,h2,Ba _ _ _ rfl (Vx _) (Qbc _) (Idle.bool _) (ry (bad (by simp[XX,e1,e2,e3])) _)⟩
        |true=>
         rw[e3]at h2;have bU:XX p x=true:=by simp[XX,eO,e1,e2,e3]
         rw[bU,zzdk]at fK;simp[h28,ai,aa,ah,Xl,bW,Qa,QK,hr,Qj,hy,pK,e1,c1,c2,c3,c4,e3,ez,fB,hw,hkf];refine⟨h1,h2,aQ,⟨i+1,bx++[Xl x],zd,zE,fK,?_⟩,zE⟩
         ·simp only[bA];simp[Xl,bW,Qa]
     simp[kindOf,hf]at eO
    have hb:=bad (by simp[XX,eO]);obtain⟨n,y,hf,rfl⟩|⟨hf,rfl⟩:=QL
    ·have hy:¬y.ki=2:=by simpa[kindOf,hf]using eO
     simp[h28,ai,aa,ah,Xl,bW,Qa,QK,hr,Qj,hy,pK,ez,fB];exact Ba _ _ _ rfl (Vx _) (Qbc _) (Idle.bool _) (ry hb _)
    simp[h28,ai,aa,ah,Xl,bW,Qa,QK,hr,Qj,pK,ez,fB];exact Ba _ _ _ rfl (Vx _) (Qbc _) (Idle.bool _) (ry hb _)
   have bO:¬(i:Int)<(p.bks.length:Int):=zE
   rw[zzal bq]at fK;have mj:p.bks.take i=p.bks:=zzat bq;simp only[mj];have fK:QJ p p.bks=true:=by rw[<- fK];rfl
   simp[h28,bO,ez,fB,bW,Qa];exact Ba _ _ _ rfl (Vx _) (Qbc _) (Idle.bool _) (VG (by simp[jx,h0,ha,fK]))
 have zk:(2000:Int)<(p.bks.length:Int):=zE
 simp[Ew,fB,bW,Qa,h0,zk,QK];exact Ba _ _ _ rfl (Vx _) Uy (Idle.bool _) (ry (by simp[jx,h0]) [])
open Go Go.Abs
def RdK(m:AM)(K:So)(r:AV)(m':AM):Prop:=∃ex,m'={m with boxes:=m.boxes++ex}/\Idle r/\K r m
def pO{m:AM}{K:So}{r:AV}{m':AM}(ex:T5)(hm:m'={m with boxes:=m.boxes++ex})(hi:Idle r)(hK:K r m):RdK m K r m':=⟨ex,hm,hi,hK⟩
def Wl{f:FuncId}{xs:P2}{m:AM}{Y:YT}{K:So}(h:aB Tryz.prog aD Y f xs m (RdK m K)):aB Tryz.prog aD Y f xs m K:=by
 refine aB.mono (aB.read (K:=fun r=>K r m) (aB.mono h fun r m' h=>h)) ?_;rintro r m' ⟨rfl,h⟩;exact h
def pP:∀{l:List It},xB l=true->∀x∈l,Sy x=true
 |y::r,h,x,hx=>by
  rw[xB,zzac]at h;rcases zzap.1 hx with rfl|hx
  ·exact h.1
  exact pP h.2 x hx
def XY{x:It}(h:Sy x=true):(1<=x.ki/\x.ki<=5)/\(1<=x.fr/\x.fr<=100000000)/\(0<=x.sp/\x.sp<=200)/\(0<=x.ra/\x.ra<=3):=by
 simp only[Sy,wi,zzac,decide_eq_true_eq]at h;exact h
def jy(p:Pl)(e:En):Bool:=match Xj e.it p.aM with
 |none=>false
 |some y=>if y.ki=5 then false else if wi e.fr 1 y.fr=false then false else if y.ki≠4/\e.fr≠y.fr then false else decide (0<=e.ea)&&(decide (e.ea<=e.la)&&decide (e.la<=p.ln-e.fr))
def jH:UV:=fun _ f l=>match l with|[.int _ n,.int _ lo,.int _ up]=>.bool (wi n lo up)|_=>.junk
def amo(p:Pl)(e:En)(kB:List (Pi×AV))(bx:T5)(XZ:xB p.aM=true)(dD:1<=p.ln/\p.ln<=100000000)(Y:YT)(K:So)(hK:∀b,jy p e=b->K (.bool b) (bW p (mI p.aM) kB bx)):
  aB Tryz.prog aD Y 208 [.ptr 3 0,.agg (Qd e)] (bW p (mI p.aM) kB bx) K:=by
 refine Wl (Xn adk jH zd ?_);obtain⟨r,hr,QL⟩:=Dd p e.it;simp[ahQ,ahR,bW,Qa,Qd];refine Um ?_;obtain⟨n,y,hf,rfl⟩|⟨hf,rfl⟩:=QL
 ·obtain⟨g1,g2,g3,g4⟩:=XY (pP XZ y (xC hf).1);have h1:=Yx e.fr 1 y.fr;by_cases c1:y.ki=5
  ·simp[hr,Qj,c1];exact pO _ rfl (Idle.bool _) (hK _ (by simp[jy,hf,c1]))
  cases c2:wi e.fr 1 y.fr with
  |false=>
   rw[c2]at h1;simp[hr,Qj,c1,c2,jH];exact⟨h1,pO _ rfl (Idle.bool _) (hK _ (by simp[jy,hf,c1,c2]))⟩
  |true=>
   rw[c2]at h1;have c2':1<=e.fr/\e.fr<=y.fr:=by simpa[wi]using c2
   have hw:IntKind.i64.wrap (p.ln-e.fr)=p.ln-e.fr:=by rw[Ql]<;>omega
   by_cases c3:y.ki≠4/\e.fr≠y.fr
   ·simp[hr,Qj,c1,c2,jH,c3.1,c3.2];exact⟨h1,pO _ rfl (Idle.bool _) (hK _ (by simp[jy,hf,c1,c2,c3.1,c3.2]))⟩
   have fin:∀b,(decide (0<=e.ea)&&(decide (e.ea<=e.la)&&decide (e.la<=p.ln-e.fr)))=b->jy p e=b:=fun b hb=>by
    rw[jy,hf];simp only;rw[if_neg c1,if_neg (by simp[c2]),if_neg c3];exact hb
   have c3':y.ki=4\/(¬y.ki=4/\e.fr=y.fr):=by
    by_cases h:y.ki=4
    ·exact .inl h
    exact .inr ⟨h,by by_cases h':e.fr=y.fr;exact h';exact absurd ⟨h,h'⟩ c3⟩
   by_cases d1:0<=e.ea
   ·by_cases d2:e.ea<=e.la
    ·by_cases d3:e.la<=p.ln-e.fr
     ·obtain c|⟨c,c'⟩:=c3'
      ·simp[hr,Qj,c1,c2,jH,c,hw,d1,d2,d3];exact⟨h1,pO _ rfl (Idle.bool _) (hK _ (fin _ (by simp[d1,d2,d3])))⟩
      rw[<- c']at c2 h1;simp[hr,Qj,c1,c2,jH,c,<- c',hw,d1,d2,d3];exact⟨h1,pO _ rfl (Idle.bool _) (hK _ (fin _ (by simp[d1,d2,d3])))⟩
     obtain c|⟨c,c'⟩:=c3'
     ·simp[hr,Qj,c1,c2,jH,c,hw,d1,d2,d3];exact⟨h1,pO _ rfl (Idle.bool _) (hK _ (fin _ (by simp[d1,d2,d3])))⟩
     rw[<- c']at c2 h1;simp[hr,Qj,c1,c2,jH,c,<- c',hw,d1,d2,d3];exact⟨h1,pO _ rfl (Idle.bool _) (hK _ (fin _ (by simp[d1,d2,d3])))⟩
    obtain c|⟨c,c'⟩:=c3'
    ·simp[hr,Qj,c1,c2,jH,c,d1,d2];exact⟨h1,pO _ rfl (Idle.bool _) (hK _ (fin _ (by simp[d1,d2])))⟩
    rw[<- c']at c2 h1;simp[hr,Qj,c1,c2,jH,c,<- c',d1,d2];exact⟨h1,pO _ rfl (Idle.bool _) (hK _ (fin _ (by simp[d1,d2])))⟩
   obtain c|⟨c,c'⟩:=c3'
   ·simp[hr,Qj,c1,c2,jH,c,d1];exact⟨h1,pO _ rfl (Idle.bool _) (hK _ (fin _ (by simp[d1])))⟩
   rw[<- c']at c2 h1;simp[hr,Qj,c1,c2,jH,c,<- c',d1];exact⟨h1,pO _ rfl (Idle.bool _) (hK _ (fin _ (by simp[d1])))⟩
 simp[hr];exact pO _ rfl (Idle.bool _) (hK _ (by simp[jy,hf]))
open Go Go.Abs
def zN(p:Pl)(e:En)(a:Sp):Bool:=match Xj a.2 p.aM with
 |none=>false
 |some y=>decide (y.fr=e.fr)&&(decide (y.ki≠5)&&decide (y.ki≠4))
def N2(p:Pl)(e:En)(kB:List (Pi×AV))(b0:T5):AM:=bW p (mI p.aM) kB (b0++[[.ptr 3 0],Qd e])
def rdA{p:Pl}{e:En}{kB:List (Pi×AV)}{b0:T5}{K:So}{r:AV}{m':AM}(ex:T5)(hm:m'=bW p (mI p.aM) kB (b0++([.ptr 3 0]::Qd e::ex)))(hi:Idle r)(hK:K r (N2 p e kB b0)):RdK (N2 p e kB b0) K r m':=
 pO ex (by rw[hm];simp[N2,bW]) hi hK
def X3(p:Pl)(e:En)(a:Sp)(kB:List (Pi×AV))(b0:T5)(Y:YT)(K:So)(hK:K (.bool (!zN p e a)) (N2 p e kB b0)):
  aB Tryz.prog aD Y 240 [.agg (Qf a),.ptr (b0.length+4) 0,.ptr (b0.length+5) 0] (N2 p e kB b0) K:=by
 refine Wl (Xn adz (fun _ _ _=>.junk) zd ?_);obtain⟨r,hr,QL⟩:=Dd p a.2;simp[ah3,ah4,N2,bW,Qa,Qd,Qf];refine Um ?_;obtain⟨n,y,hf,rfl⟩|⟨hf,rfl⟩:=QL
 ·by_cases c1:y.fr=e.fr
  ·by_cases c2:y.ki=5
   ·have:(!zN p e a)=true:=by simp[zN,hf,c1,c2]
    rw[this]at hK;simp[hr,Qj,c1,c2];exact rdA _ rfl (Idle.bool _) hK
   by_cases c3:y.ki=4
   ·have:(!zN p e a)=true:=by simp[zN,hf,c1,c2,c3]
    rw[this]at hK;simp[hr,Qj,c1,c2,c3];exact rdA _ rfl (Idle.bool _) hK
   have:(!zN p e a)=false:=by simp[zN,hf,c1,c2,c3]
   rw[this]at hK;have h':(y.ki==5||y.ki==4)=false:=by simp[c2,c3]
   simp[hr,Qj,c1,c2,c3];rw[h'];exact rdA _ rfl (Idle.bool _) hK
  have:(!zN p e a)=true:=by simp[zN,hf,c1]
  rw[this]at hK;have h':(y.fr !=e.fr||y.ki==5||y.ki==4)=true:=by simp[c1]
  simp[hr,Qj,c1];rw[h'];exact rdA _ rfl (Idle.bool _) hK
 have:(!zN p e a)=true:=by simp[zN,hf]
 rw[this]at hK;simp[hr];exact rdA _ rfl (Idle.bool _) hK
def jI{α:Type}(b:α->Bool):List α->Nat->Int
 |[],_=> -1
 |x::r,i=>if b x=true then(i:Int)else jI b r (i+1)
def xD{α:Type}(b:α->Bool):∀(l:List α)(i:Nat),(0<=jI b l i<->l.any b=true)
 |[],i=>by simp[jI]
 |x::r,i=>by
  rw[jI];cases h:b x with
  |true=>simp[h]
  |false=>simp[h,xD b r (i+1)]
def asW(s n:Nat)(m0:AM)(R:Nat->Prop)(f:Nat->AV)(m:AM):Prop:=∃(i:Nat),f s=I i/\i<=n/\R i/\m=m0
def X4(p:Pl)(e:En)(L:List Sp)(hl:L.length<=8796093022208)(kB:List (Pi×AV))(b0:T5)(Y:YT)(K:So)(hK:K (I (jI (fun a=>!zN p e a) L 0)) (N2 p e kB b0)):
  aB Tryz.prog aD Y 262 [.sl .ro (L.map Qf),.fn 240 [] [.ptr (b0.length+4) 0,.ptr (b0.length+5) 0]] (N2 p e kB b0) K:=by
 obtain⟨T,hT⟩:∃T,jI (fun a=>!zN p e a) L 0=T:=⟨_,rfl⟩;rw[hT]at hK;refine Xn adJ (fun _ _ _=>.gd false .junk) zd ?_;simp[aij];refine Qi vB (asW 8 L.length (N2 p e kB b0) fun i=>jI (fun a=>!zN p e a) (L.drop i) i=T) (fun f _=>L.length-(numOf (f 8)).toNat) ?_ ?_
 ·exact⟨0,zd,zE,Nm hT,rfl⟩
 rintro f m ⟨i,h8,hi,hx,rfl⟩;rcases zzaa i L.length with ai|bq
 ·obtain⟨a,ha⟩:=aV ai;have ah:=Zv ha;have aa:(i:Int)<(L.length:Int):=zE
  have hw:=bP i zE;rw[Za ha,jI]at hx;simp[h8,ai,aa,ah,vB,EF];refine X3 p e a kB b0 Y _ ?_;cases hb:zN p e a with
  |false=>
   rw[hb]at hx;simp at hx;simp[h8,vB,EF,hx];exact hK
  |true=>
   rw[hb]at hx;simp at hx;simp[h8,vB,EF,hw];refine⟨aQ,⟨i+1,zd,zE,hx,rfl⟩,zE⟩
 have bO:¬(i:Int)<(L.length:Int):=zE
 rw[zzal bq,jI]at hx;simp[h8,bO,zzbk.2 bq,vB,EF,hx];exact hK
def KX(p:Pl)(e:En)(L:List Sp)(hl:L.length<=8796093022208)(kB:List (Pi×AV))(b0:T5)(Y:YT)(K:So)(hK:K (.bool (L.any fun a=>!zN p e a)) (N2 p e kB b0)):
  aB Tryz.prog aD Y 241 [.sl .ro (L.map Qf),.fn 240 [] [.ptr (b0.length+4) 0,.ptr (b0.length+5) 0]] (N2 p e kB b0) K:=by
 have amq:=xD (fun a=>!zN p e a) L 0;refine Xn adA (fun _ _ _=>.gd false .junk) zd ?_;simp[ah5];refine X4 p e L hl kB b0 Y _ ?_
 have:decide (0<=jI (fun a=>!zN p e a) L 0)=L.any fun a=>!zN p e a:=by
  rw[zzcy,decide_eq_true_eq];exact amq
 simp[ah6,this];simpa using hK
def mC(p:Pl)(e:En):Bool:=We 1 (p.rg-1) none (e.al.map fun x=>x.1)&&(!(decide (kindOf p e.it=4)&&decide (e.al≠[]))&&!(e.al.any fun a=>!zN p e a))
def Bb(p:Pl)(e:En):UV:=fun _ f _=>if f=238 then .bool (We 1 (p.rg-1) none (e.al.map fun x=>x.1))else .gd false .junk
def amr(p:Pl)(e:En)(hl:e.al.length<=8796093022208)(IJ:1<=p.rg/\p.rg<=8)(kB:List (Pi×AV))(bx:T5)(Y:YT)(K:So)(hK:∀b,mC p e=b->K (.bool b) (bW p (mI p.aM) kB bx)):
  aB Tryz.prog aD Y 209 [.ptr 3 0,.agg (Qd e)] (bW p (mI p.aM) kB bx) K:=by
 have Gi:=QH e.al 1 (p.rg-1) hl;refine Wl (Xn adl (Bb p e) zd ?_);obtain⟨r,hr,QL⟩:=Dd p e.it;have pK:IntKind.i64.wrap (p.rg-1)=p.rg-1:=by rw[Ql]<;>omega
 cases h1:We 1 (p.rg-1) none (e.al.map fun x=>x.1)with
 |false=>
  rw[h1]at Gi;simp[Ao,oG,bW,Qa,Qd,pK,Bb,h1];exact⟨Gi,pO _ rfl (Idle.bool _) (hK _ (by simp[mC,h1]))⟩
 |true=>
  rw[h1]at Gi;have tl:∀(E:QQ),True:=fun _=>trivial;have Sq:kindOf p e.it=4->e.al≠[]->mC p e=false:=fun h h'=>by simp[mC,h,h']
  have iw:¬(kindOf p e.it=4/\e.al≠[])->mC p e=!(e.al.any fun a=>!zN p e a):=fun h=>by
   have:(decide (kindOf p e.it=4)&&decide (e.al≠[]))=false:=by
    rw[Bool.eq_false_iff];intro h';simp at h';exact h h'
   rw[mC,h1,this];rfl
  obtain⟨n,y,hf,rfl⟩|⟨hf,rfl⟩:=QL
  ·have hkd:kindOf p e.it=y.ki:=by simp[kindOf,hf]
   by_cases c1:y.ki=4
   ·by_cases c2:e.al=[]
    ·have PI:=iw (by simp[c2]);have c2l:¬0<e.al.length:=by simp[c2]
     simp[Ao,oG,bW,Qa,Qd,pK,Bb,h1,hr,Qj,c1,c2];rw[c2]at Gi;refine⟨Gi,?_⟩;have:=KX p e [] zd kB bx Y;simp only[N2,bW,Qa,Qd,c2]at this;refine this _ ?_;simp[oG];exact pO _ rfl (Idle.bool _) (hK _ (by rw[PI,c2];rfl))
    have c2l:0<e.al.length:=zzdb.2 c2;simp[Ao,oG,bW,Qa,Qd,pK,Bb,h1,hr,Qj,c1,c2l];exact⟨Gi,pO _ rfl (Idle.bool _) (hK _ (Sq (by rw[hkd,c1]) c2))⟩
   have PI:=iw (by rw[hkd];exact fun h=>c1 h.1);simp[Ao,oG,bW,Qa,Qd,pK,Bb,h1,hr,Qj,c1];refine⟨Gi,?_⟩;have:=KX p e e.al hl kB bx Y;simp only[N2,bW,Qa,Qd]at this;refine this _ ?_;simp[oG];exact pO _ rfl (Idle.bool _) (hK _ (by rw[PI]))
  have PI:=iw (by simp[kindOf,hf]);simp[Ao,oG,bW,Qa,Qd,pK,Bb,h1,hr];refine⟨Gi,?_⟩;have:=KX p e e.al hl kB bx Y;simp only[N2,bW,Qa,Qd]at this;refine this _ ?_;simp[oG];exact pO _ rfl (Idle.bool _) (hK _ (by rw[PI]))
open Go Go.Abs
def xE(x a:Sp):Bool:=x.1==a.1&&x.2==a.2
def X5(x:Sp)(L:List Sp):L.any (xE x)=decide (x∈L):=by
 rw[zzcy];simp only[zzbr,decide_eq_true_eq,xE,zzac,beq_iff_eq];constructor
 ·rintro⟨a,h,h1,h2⟩;have:x=a:=Prod.ext h1 h2;rw[this];exact h
 exact fun h=>⟨x,h,rfl,rfl⟩
def X6(x:Sp)(L:List Sp)(hl:L.length<=8796093022208):Pure Tryz.prog aD 263 [.sl .ro (L.map Qf),.agg (Qf x)] (I (jI (xE x) L 0)):=by
 obtain⟨T,hT⟩:∃T,jI (xE x) L 0=T:=⟨_,rfl⟩;rw[hT];refine Qp adK (fun _ _ _=>.junk) zd ?_;simp[aik,Qf];refine Qi Ch (asW 8 L.length ⟨[[I x.1,I x.2]],[],fun _=>.gone,0⟩ fun i=>jI (xE x) (L.drop i) i=T) (fun f _=>L.length-(numOf (f 8)).toNat) ?_ ?_
 ·exact⟨0,zd,zE,Nm hT,rfl⟩
 rintro f m ⟨i,h8,hi,hx,rfl⟩;rcases zzaa i L.length with ai|bq
 ·obtain⟨a,ha⟩:=aV ai;have ah:Qh (L.map Qf) i=Qf a:=Zv ha;have ai7:Qh (L.map fun x=>[I x.1,I x.2]) i=Qf a:=ah;have aa:(i:Int)<(L.length:Int):=zE
  have hw:=bP i zE;rw[Za ha,jI]at hx;cases hb:xE x a with
  |false=>
   rw[hb]at hx;simp at hx;simp only[xE]at hb;simp[h8,ai,aa,ah,ai7,Ch,Np,hw,Qf,hb];refine⟨aQ,⟨i+1,zd,zE,hx,rfl⟩,zE⟩
  |true=>
   rw[hb]at hx;simp at hx;simp only[xE]at hb;subst hx;simp[h8,ai,aa,ah,ai7,Ch,Np,Qf,hb]
 have bO:¬(i:Int)<(L.length:Int):=zE
 rw[zzal bq,jI]at hx;simp[h8,bO,zzbk.2 bq,Ch,Np,hx]
def Gj(x:Sp)(L:List Sp)(hl:L.length<=8796093022208):Pure Tryz.prog aD 242 [.sl .ro (L.map Qf),.agg (Qf x)] (.bool (decide (x∈L))):=by
 have k:=X6 x L hl;have amq:=xD (xE x) L 0;refine Qp adB (fun _ _ _=>I (jI (xE x) L 0)) zd ?_
 have:decide (0<=jI (xE x) L 0)=decide (x∈L):=by
  rw[<- X5,zzcy,decide_eq_true_eq];exact amq
 simp[ah7,ah8,this,Qf];simpa[Qf]using k
def ams(p:Pl)(id:Int):∃r,Xk [id] (mK p.bks) 0=r/\((∃n x,Gh id p.bks=some x/\r=some (n,.agg (Xl x)))\/(Gh id p.bks=none/\r=none)):=by
 obtain⟨g1,g2⟩:=asV id p.bks 0;cases hf:Gh id p.bks with
 |none=>exact⟨_,rfl,.inr ⟨rfl,g1 hf⟩⟩
 |some x=>
  obtain⟨n,g⟩:=g2 x hf;exact⟨_,rfl,.inl ⟨n,x,rfl,g⟩⟩
def QM(p:Pl)(e:En):Bool:=if e.bo=0 then true else match Gh e.bo p.bks with
 |none=>false
 |some x=>if x.re=0 then decide (x.it=e.it)else decide ((x.re,x.it)∈e.al)
def QN(p:Pl)(e:En)(hl:e.al.length<=8796093022208)(kI:List (Pi×AV))(bx:T5)(Y:YT)(K:So)(hK:∀b,QM p e=b->K (.bool b) (bW p kI (mK p.bks) bx)):
  aB Tryz.prog aD Y 210 [.ptr 3 0,.agg (Qd e)] (bW p kI (mK p.bks) bx) K:=by
 obtain⟨r,hr,QL⟩:=ams p e.bo;by_cases h0:e.bo=0
 ·refine Wl (Xn Ce (fun _ _ _=>.junk) zd ?_);simp[Nf,Ng,bW,Qa,Qd,h0];exact pO _ rfl (Idle.bool _) (hK _ (by simp[QM,h0]))
 obtain⟨n,x,hf,rfl⟩|⟨hf,rfl⟩:=QL
 ·have k:=Gj (x.re,x.it) e.al hl;refine Wl (Xn Ce (fun _ _ _=>.bool (decide ((x.re,x.it)∈e.al))) zd ?_);simp[Nf,Ng,bW,Qa,Qd,h0];refine Um ?_;by_cases c1:x.re=0
  ·simp[hr,Xl,c1];exact pO _ rfl (Idle.bool _) (hK _ (by simp only[QM,h0,hf,c1];rw[zzcy];simp))
  simp[hr,Xl,c1];refine⟨by simpa[Qf]using k,pO _ rfl (Idle.bool _) (hK _ (by simp[QM,h0,hf,c1]))⟩
 refine Wl (Xn Ce (fun _ _ _=>.junk) zd ?_);simp[Nf,Ng,bW,Qa,Qd,h0];refine Um ?_;simp[hr];exact pO _ rfl (Idle.bool _) (hK _ (by simp[QM,h0,hf]))
def zP(p:Pl)(seen:Pi)(e:En):Bool:=wi e.id 1 1000000&&(!decide (e.id∈seen)&&(jy p e&&(mC p e&&QM p e)))
def Gk(p:Pl):Pi->List En->Bool
 |_,[]=>true
 |seen,e::r=>zP p seen e&&Gk p (seen++[e.id]) r
def xF(p:Pl):Bool:=decide (p.ens.length<=4000)&&Gk p [] p.ens
def mS(l:Pi):List (Pi×AV):=l.map fun n=>([n],.bool true)
def asX(k:Int):∀(l:Pi)(i:Nat),(k∈l->∃n,Xk [k] (mS l) i=some (n,.bool true))/\(¬k∈l->Xk [k] (mS l) i=none)
 |[],i=>⟨fun h=>(by cases h),fun _=>rfl⟩
 |x::r,i=>by
  have ih:=asX k r (i+1);simp only[mS,zzbb,Xk]at ih |-
  by_cases h:x=k
  ·subst h;simp
  have h':¬k=x:=fun e=>h e.symm;rw[if_neg (by intro e;cases e;exact h rfl)];simp only[zzap,h',false_or];exact ih
def xG:UV:=fun _ f l=>if f=204 then(match l with|[.int _ n,.int _ lo,.int _ up]=>.bool (wi n lo up)|_=>.junk)else .gd false .junk
def amt(p:Pl)(f:Nat->AV)(m:AM):Prop:=∃(i:Nat)(bx:T5),f 20=I i/\i<=p.ens.length/\Gk p ((p.ens.take i).map fun e=>e.id) (p.ens.drop i)=Gk p [] p.ens/\f 3=.mp 4/\m=bW p (mI p.aM) (mK p.bks) ([.aJ 0 (mS ((p.ens.take i).map fun e=>e.id))]::bx)
def Qdj{p:Pl}{i:Nat}{e:En}(h:p.ens[i]?=some e):Qh (p.ens.map Qd) i=Qd e:=Qu (by simp[h])
def QO(p:Pl)(hl:p.ens.length<=1000000000)(fK:∀e∈p.ens,e.al.length<=8796093022208)(XZ:xB p.aM=true)(IJ:1<=p.rg/\p.rg<=8)(dD:1<=p.ln/\p.ln<=100000000)(Y:YT)(K:So)(hK:∀b,xF p=b->K (.bool b) (bW p (mI p.aM) (mK p.bks) [])):
  aB Tryz.prog aD Y 156 [.ptr 3 0] (bW p (mI p.aM) (mK p.bks) []) K:=by
 refine Wl (Xn acG xG zd ?_);by_cases h0:p.ens.length<=4000
 ·have zk:¬(4000:Int)<(p.ens.length:Int):=zE
  simp[MX,bW,Qa,h0,zk];refine Qi qB (amt p) (fun f _=>p.ens.length-(numOf (f 20)).toNat) ?_ ?_
  ·exact⟨0,[],zd,zE,zd,zd,by simp[bW,Qa,mS]⟩
  rintro f m ⟨i,bx,h20,hi,ha,h3,rfl⟩;rcases zzaa i p.ens.length with ai|bq
  ·obtain⟨e,he⟩:=aV ai;have ah:=Qdj he;have aa:(i:Int)<(p.ens.length:Int):=zE
   have hw:=bP i zE;have bA:(p.ens.take (i+1)).map (fun e=>e.id)=(p.ens.take i).map (fun e=>e.id)++[e.id]:=by simp[zzb,he]
   rw[Za he,Gk,<- bA]at ha;obtain⟨S,hS⟩:∃S,(p.ens.take i).map (fun e=>e.id)=S:=⟨_,rfl⟩;rw[hS]at ha bA |-
   have h1:=Yx e.id 1 1000000;have hae:=fK e (zzad he);obtain⟨s1,s2⟩:=asX e.id S 0;have bad:zP p S e=false->xF p=false:=fun h=>by rw[h]at ha;simp[xF,<- ha]
   cases e1:wi e.id 1 1000000 with
   |false=>
    rw[e1]at h1;simp[h20,h3,ai,aa,ah,Qd,bW,Qa,xG,e1,qB,r6];exact⟨h1,pO _ rfl (Idle.bool _) (hK _ (bad (by simp[zP,e1])))⟩
   |true=>
    rw[e1]at h1;by_cases e2:e.id∈S
    ·obtain⟨n,s1⟩:=s1 e2;simp[h20,h3,ai,aa,ah,Qd,bW,Qa,xG,e1,s1,qB,r6];exact⟨h1,pO _ rfl (Idle.bool _) (hK _ (bad (by simp[zP,e1,e2])))⟩
    have s2:=s2 e2;simp[h20,h3,ai,aa,ah,Qd,bW,Qa,xG,e1,s2,qB];refine⟨h1,amo p e (mK p.bks) ([.aJ 0 (mS S)]::(bx++[Qd e])) XZ dD Y _ fun b hb=>?_⟩;cases b with
    |false=>
     simp[r6];exact pO _ rfl (Idle.bool _) (hK _ (bad (by simp[zP,e1,e2,hb])))
    |true=>
     simp[bW,Qa,Qd,xG];refine amr p e hae IJ (mK p.bks) ([.aJ 0 (mS S)]::(bx++[Qd e])) Y _ fun b fR=>?_;cases b with
     |false=>
      simp[r6];exact pO _ rfl (Idle.bool _) (hK _ (bad (by simp[zP,e1,e2,hb,fR])))
     |true=>
      simp[bW,Qa,Qd,xG];refine QN p e hae (mI p.aM) ([.aJ 0 (mS S)]::(bx++[Qd e])) Y _ fun b hb3=>?_;cases b with
      |false=>
       simp[r6];exact pO _ rfl (Idle.bool _) (hK _ (bad (by simp[zP,e1,e2,hb,fR,hb3])))
      |true=>
       have bU:zP p S e=true:=by simp[zP,e1,e2,hb,fR,hb3]
       rw[bU,zzdk]at ha;simp[h20,h3,bW,Qa,Qd,xG,s2,hw,qB];refine⟨aQ,⟨i+1,bx++[Qd e],zd,zE,ha,by simp[h3],?_⟩,zE⟩
       ·rw[bA];simp[bW,Qa,Qd,mS]
  have bO:¬(i:Int)<(p.ens.length:Int):=zE
  rw[zzal bq]at ha;have ha:Gk p [] p.ens=true:=by rw[<- ha];rfl
  simp[h20,bO,zzbk.2 bq,qB,r6,bW,Qa];exact pO _ rfl (Idle.bool _) (hK _ (by simp[xF,h0,ha]))
 have zk:(4000:Int)<(p.ens.length:Int):=zE
 simp[MX,r6,bW,Qa,h0,zk];exact pO [] zd (Idle.bool _) (hK _ (by simp[xF,h0]))
open Go Go.Abs
def jJ(p:Pl):Bool:=Jn p&&(SA p&&(jx p&&(xF p&&Qds p)))
def pQ(p:Pl):UV:=fun _ f _=>if f=153 then .bool (Jn p)else if f=157 then .bool (Qds p)else .gd false .junk
def PlS(p:Pl):Prop:=p.sh.length<=1000000000/\p.aM.length<=1000000000/\p.ens.length<=1000000000/\p.bks.length<=8796093022208/\p.cls.length<=1000000000/\∀e∈p.ens,e.al.length<=8796093022208
def Wz(p:Pl)(h:PlS p):Pure Tryz.prog aD 95 [.agg (Qa p)] (.bool (jJ p)):=by
 obtain⟨l1,l2,l3,l4,l5,l6⟩:=h;have k44:=aeA p l1;have k48:=QI p l5;refine Qp akY (pQ p) zd ?_;cases e1:Jn p with
 |false=>
  rw[e1]at k44;simp[akX,O9,Qa,pQ,jJ,e1];simpa[Qa]using k44
 |true=>
  rw[e1]at k44
  have hs:(1<=p.rg/\p.rg<=8)/\(1<=p.ln/\p.ln<=100000000):=by
   simp[Jn,wi]at e1;omega
  simp[akX,Qa,pQ,jJ,e1];refine⟨by simpa[Qa]using k44,?_⟩;refine aeG p l2 Y0 _ (fun e2=>?_) (fun e2 kI=>?_)
  ·simp[bW,Qa,pQ,e2];refine aeH p l4 hs.1 Y0 _ (fun e3=>?_) (fun e3 kB=>?_)
   ·simp[bW,Qa,pQ,e3]
    have XZ:xB p.aM=true:=by
     simp[SA]at e2;exact e2.2.2.1
    refine QO p l3 l6 XZ hs.1 hs.2 Y0 _ fun b e4=>?_;cases b with
    |false=>simp[O9,bW,Qa,pQ,e4]
    |true=>
     simp[O9,bW,Qa,pQ,e4];simpa[Qa]using k48
   simp[O9,bW,Qa,pQ,e3]
  simp[O9,bW,Qa,pQ,e2]
