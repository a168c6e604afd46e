import Derived.Test.YtnopaopphmjnmaaGreatDoorMDSpG
set_option linter.all false
set_option maxRecDepth 100000
set_option maxHeartbeats 64000000
namespace Go.Proofs.YtnopaopphmjnmaaGreatDoor
open Go Go.Abs
def Yx(n lo up:Int):Pure Tryz.prog aq 265 [I n,I lo,I up] (.bool (wi n lo up)):=by
 refine Qn aei (fun _ _ _=>.junk) (by simp) ?_;by_cases h1:lo<=n<;>by_cases h2:n<=up<;>simp[ajh,aji,wi,h1,h2]
def akA(e:It):Pure Tryz.prog aq 56 [.agg (Qm e)] (I e.id):=by
 refine Qn TN (fun _ _ _=>.junk) (by simp) ?_;simp[alK,Qm,alL]
def xg(e:Bk):Pure Tryz.prog aq 268 [.agg (Xa e)] (I e.id):=by
 refine Qn ael (fun _ _ _=>.junk) (by simp) ?_;simp[ajj,Xa,ajk]
def xh(e:Sp):Pure Tryz.prog aq 314 [.agg (Qe e)] (I e.1):=by
 refine Qn aeC (fun _ _ _=>.junk) (by simp) ?_;simp[ajz,Qe,ajA]
def Tm(k:Int):Option Int->Bool
 |some q=>decide (k<=q)
 |none=>false
def Kl(lo up:Int):Option Int->List Int->Bool
 |_,[]=>true
 |pr,k::r=>if k<lo\/up<k\/Tm k pr=true then false else Kl lo up (some k) r
def Iz(ks:List Int):Nat->Option Int
 |0=>none
 |i+1=>ks[i]?
def Qdm{ks:List Int}{i:Nat}{k:Int}(h:ks[i]?=some k):Iz ks (i+1)=some k:=h
def keyOf:List AV->Int
 |[.agg (.int _ n::_)]=>n
 |_=>0
def iE:Nat->FuncId->List AV->AV:=fun _ _ l=>I (keyOf l)
def ru{lo up:Int}{ks:List Int}{i:Nat}{k:Int}(h:ks[i]?=some k):Kl lo up (Iz ks i) (ks.drop i)=if k<lo\/up<k\/Tm k (Iz ks i)=true then false else Kl lo up (Iz ks (i+1)) (ks.drop (i+1)):=by
 obtain⟨hi,hk⟩:=zza.1 h;rw[zzaf hi,hk,Kl,Qdm h]
def Oq(s n:Nat)(R:Nat->Prop)(f:Nat->AV)(m:AM):Prop:=∃(i:Nat)(bx:List (List AV)),f s=I i/\i<=n/\R i/\m=⟨bx,[],fun _=>.gone,0⟩
def Rr(L:List It)(lo up:Int)(hl:L.length<=8796093022208):Pure Tryz.prog aq 266 [.sl .ro (L.map Qm),I lo,I up,.fn 56 [] []] (.bool (Kl lo up none (L.map fun x=>x.id))):=by
 obtain⟨T,hT⟩:∃T,Kl lo up none (L.map fun x=>x.id)=T:=⟨_,rfl⟩;rw[hT];refine Qn aej iE (by simp) ?_;simp[VK];refine Qi mR (Oq 14 L.length fun i=>Kl lo up (Iz (L.map fun x=>x.id) i) ((L.map fun x=>x.id).drop i)=T) (fun f _=>L.length-(numOf (f 14)).toNat) ?_ ?_
 ·exact⟨0,_,by simp,by omega,by simpa[Iz]using hT,rfl⟩
 rintro f m ⟨i,bx,wX,hi,ha,rfl⟩;rcases zzaa i L.length with ai|bw
 ·obtain⟨x,hx⟩:=aP ai;have aa:Qh (L.map Qm) i=Qm x:=Qr (by simp[hx]);have ah:(i:Int)<(L.length:Int):=by omega
  have hw:=bH i (by omega);have hk:=akA x;have Zs:(L.map fun x=>x.id)[i]?=some x.id:=by simp[hx]
  rw[ru Zs]at ha;by_cases c1:x.id<lo
  ·rw[if_pos (.inl c1)]at ha;subst ha;simp[wX,ah,aa,Qm,iE,keyOf,c1,mR,vo];simpa[Qm]using hk
  by_cases c2:up<x.id
  ·rw[if_pos (.inr (.inl c2))]at ha;subst ha;simp[wX,ah,aa,Qm,iE,keyOf,c1,c2,mR,vo];simpa[Qm]using hk
  cases i with
  |zero=>
   rw[if_neg (by simp[c1,c2,Iz,Tm])]at ha;have eO:IntKind.i64.wrap 1=1:=by decide
   simp[wX,ai,aa,Qm,iE,keyOf,c1,c2,mR,vo,eO];refine⟨by simpa[Qm]using hk,aN,⟨1,_,by simp,by omega,ha,rfl⟩,by omega⟩
  |succ j=>
   have nL:j<L.length:=by omega
   have sI:(j:Int)<(L.length:Int):=by omega
   obtain⟨y,hy⟩:=aP nL;have sJ:Qh (L.map Qm) j=Qm y:=Qr (by simp[hy]);have hky:=akA y;have sK:Iz (L.map fun x=>x.id) (j+1)=some y.id:=Qdm (by simp[hy]);have hwm:IntKind.i64.wrap (((j+1:Nat):Int)-1)=(j:Int):=by rw[Qk]<;>omega
   have atp:IntKind.i64.wrap ((j:Int)+1-1)=(j:Int):=by rw[Qk]<;>omega
   have w9:IntKind.i64.wrap (j:Int)=(j:Int):=by rw[Qk]<;>omega
   have ew:(0:Int)<(j:Int)+1:=by omega
   have hj0:(0:Int)<=(j:Int):=by omega
   have Gi:(0:Int)<=(j:Int)+1:=by omega
   have hjn:¬(j:Int)<0:=by omega
   have Gj:(j:Int)+1<(L.length:Int):=by omega
   have eC:IntKind.i64.wrap ((j:Int)+1+1)=((j+1+1:Nat):Int):=by rw[Qk]<;>omega
   by_cases c3:x.id<=y.id
   ·rw[if_pos (.inr (.inr (by rw[sK];simp[Tm,c3])))]at ha;subst ha;simp[wX,Gj,ew,hj0,Gi,w9,sI,aa,sJ,Qm,iE,keyOf,c1,c2,c3,mR,vo];exact⟨by simpa[Qm]using hk,by simpa[Qm]using hky⟩
   rw[if_neg (by rw[sK];simp[c1,c2,c3,Tm])]at ha;simp[wX,Gj,ew,hj0,Gi,w9,sI,aa,sJ,Qm,iE,keyOf,c1,c2,c3,mR,vo,eC];refine⟨by simpa[Qm]using hk,by simpa[Qm]using hky,aN,⟨j+1+1,_,by simp,by omega,ha,rfl⟩,by omega⟩
 obtain rfl:i=L.length:=by omega
 rw[zzan (by simp)]at ha;have ha:true=T:=by rw[<- ha];simp[Kl]
 subst ha;simp[wX,mR,vo]
def Ru(L:List Bk)(lo up:Int)(hl:L.length<=8796093022208):Pure Tryz.prog aq 267 [.sl .ro (L.map Xa),I lo,I up,.fn 268 [] []] (.bool (Kl lo up none (L.map fun x=>x.id))):=by
 obtain⟨T,hT⟩:∃T,Kl lo up none (L.map fun x=>x.id)=T:=⟨_,rfl⟩;rw[hT];refine Qn aek iE (by simp) ?_;simp[VL];refine Qi mT (Oq 14 L.length fun i=>Kl lo up (Iz (L.map fun x=>x.id) i) ((L.map fun x=>x.id).drop i)=T) (fun f _=>L.length-(numOf (f 14)).toNat) ?_ ?_
 ·exact⟨0,_,by simp,by omega,by simpa[Iz]using hT,rfl⟩
 rintro f m ⟨i,bx,wX,hi,ha,rfl⟩;rcases zzaa i L.length with ai|bw
 ·obtain⟨x,hx⟩:=aP ai;have aa:Qh (L.map Xa) i=Xa x:=Qr (by simp[hx]);have ah:(i:Int)<(L.length:Int):=by omega
  have hw:=bH i (by omega);have hk:=xg x;have Zs:(L.map fun x=>x.id)[i]?=some x.id:=by simp[hx]
  rw[ru Zs]at ha;by_cases c1:x.id<lo
  ·rw[if_pos (.inl c1)]at ha;subst ha;simp[wX,ah,aa,Xa,iE,keyOf,c1,mT,vp];simpa[Xa]using hk
  by_cases c2:up<x.id
  ·rw[if_pos (.inr (.inl c2))]at ha;subst ha;simp[wX,ah,aa,Xa,iE,keyOf,c1,c2,mT,vp];simpa[Xa]using hk
  cases i with
  |zero=>
   rw[if_neg (by simp[c1,c2,Iz,Tm])]at ha;have eO:IntKind.i64.wrap 1=1:=by decide
   simp[wX,ai,aa,Xa,iE,keyOf,c1,c2,mT,vp,eO];refine⟨by simpa[Xa]using hk,aN,⟨1,_,by simp,by omega,ha,rfl⟩,by omega⟩
  |succ j=>
   have nL:j<L.length:=by omega
   have sI:(j:Int)<(L.length:Int):=by omega
   obtain⟨y,hy⟩:=aP nL;have sJ:Qh (L.map Xa) j=Xa y:=Qr (by simp[hy]);have hky:=xg y;have sK:Iz (L.map fun x=>x.id) (j+1)=some y.id:=Qdm (by simp[hy]);have hwm:IntKind.i64.wrap (((j+1:Nat):Int)-1)=(j:Int):=by rw[Qk]<;>omega
   have atp:IntKind.i64.wrap ((j:Int)+1-1)=(j:Int):=by rw[Qk]<;>omega
   have w9:IntKind.i64.wrap (j:Int)=(j:Int):=by rw[Qk]<;>omega
   have ew:(0:Int)<(j:Int)+1:=by omega
   have hj0:(0:Int)<=(j:Int):=by omega
   have Gi:(0:Int)<=(j:Int)+1:=by omega
   have hjn:¬(j:Int)<0:=by omega
   have Gj:(j:Int)+1<(L.length:Int):=by omega
   have eC:IntKind.i64.wrap ((j:Int)+1+1)=((j+1+1:Nat):Int):=by rw[Qk]<;>omega
   by_cases c3:x.id<=y.id
   ·rw[if_pos (.inr (.inr (by rw[sK];simp[Tm,c3])))]at ha;subst ha;simp[wX,Gj,ew,hj0,Gi,w9,sI,aa,sJ,Xa,iE,keyOf,c1,c2,c3,mT,vp];exact⟨by simpa[Xa]using hk,by simpa[Xa]using hky⟩
   rw[if_neg (by rw[sK];simp[c1,c2,c3,Tm])]at ha;simp[wX,Gj,ew,hj0,Gi,w9,sI,aa,sJ,Xa,iE,keyOf,c1,c2,c3,mT,vp,eC];refine⟨by simpa[Xa]using hk,by simpa[Xa]using hky,aN,⟨j+1+1,_,by simp,by omega,ha,rfl⟩,by omega⟩
 obtain rfl:i=L.length:=by omega
 rw[zzan (by simp)]at ha;have ha:true=T:=by rw[<- ha];simp[Kl]
 subst ha;simp[wX,mT,vp]
def Rv(L:List Sp)(lo up:Int)(hl:L.length<=8796093022208):Pure Tryz.prog aq 313 [.sl .ro (L.map Qe),I lo,I up,.fn 314 [] []] (.bool (Kl lo up none (L.map fun x=>x.1))):=by
 obtain⟨T,hT⟩:∃T,Kl lo up none (L.map fun x=>x.1)=T:=⟨_,rfl⟩;rw[hT];refine Qn aeB iE (by simp) ?_;simp[VV];refine Qi mU (Oq 14 L.length fun i=>Kl lo up (Iz (L.map fun x=>x.1) i) ((L.map fun x=>x.1).drop i)=T) (fun f _=>L.length-(numOf (f 14)).toNat) ?_ ?_
 ·exact⟨0,_,by simp,by omega,by simpa[Iz]using hT,rfl⟩
 rintro f m ⟨i,bx,wX,hi,ha,rfl⟩;rcases zzaa i L.length with ai|bw
 ·obtain⟨x,hx⟩:=aP ai;have aa:Qh (L.map Qe) i=Qe x:=Qr (by simp[hx]);have ah:(i:Int)<(L.length:Int):=by omega
  have hw:=bH i (by omega);have hk:=xh x;have Zs:(L.map fun x=>x.1)[i]?=some x.1:=by simp[hx]
  rw[ru Zs]at ha;by_cases c1:x.1<lo
  ·rw[if_pos (.inl c1)]at ha;subst ha;simp[wX,ah,aa,Qe,iE,keyOf,c1,mU,vr];simpa[Qe]using hk
  by_cases c2:up<x.1
  ·rw[if_pos (.inr (.inl c2))]at ha;subst ha;simp[wX,ah,aa,Qe,iE,keyOf,c1,c2,mU,vr];simpa[Qe]using hk
  cases i with
  |zero=>
   rw[if_neg (by simp[c1,c2,Iz,Tm])]at ha;have eO:IntKind.i64.wrap 1=1:=by decide
   simp[wX,ai,aa,Qe,iE,keyOf,c1,c2,mU,vr,eO];refine⟨by simpa[Qe]using hk,aN,⟨1,_,by simp,by omega,ha,rfl⟩,by omega⟩
  |succ j=>
   have nL:j<L.length:=by omega
   have sI:(j:Int)<(L.length:Int):=by omega
   obtain⟨y,hy⟩:=aP nL;have sJ:Qh (L.map Qe) j=Qe y:=Qr (by simp[hy]);have hky:=xh y;have sK:Iz (L.map fun x=>x.1) (j+1)=some y.1:=Qdm (by simp[hy]);have hwm:IntKind.i64.wrap (((j+1:Nat):Int)-1)=(j:Int):=by rw[Qk]<;>omega
   have atp:IntKind.i64.wrap ((j:Int)+1-1)=(j:Int):=by rw[Qk]<;>omega
   have w9:IntKind.i64.wrap (j:Int)=(j:Int):=by rw[Qk]<;>omega
   have ew:(0:Int)<(j:Int)+1:=by omega
   have hj0:(0:Int)<=(j:Int):=by omega
   have Gi:(0:Int)<=(j:Int)+1:=by omega
   have hjn:¬(j:Int)<0:=by omega
   have Gj:(j:Int)+1<(L.length:Int):=by omega
   have eC:IntKind.i64.wrap ((j:Int)+1+1)=((j+1+1:Nat):Int):=by rw[Qk]<;>omega
   by_cases c3:x.1<=y.1
   ·rw[if_pos (.inr (.inr (by rw[sK];simp[Tm,c3])))]at ha;subst ha;simp[wX,Gj,ew,hj0,Gi,w9,sI,aa,sJ,Qe,iE,keyOf,c1,c2,c3,mU,vr];exact⟨by simpa[Qe]using hk,by simpa[Qe]using hky⟩
   rw[if_neg (by rw[sK];simp[c1,c2,c3,Tm])]at ha;simp[wX,Gj,ew,hj0,Gi,w9,sI,aa,sJ,Qe,iE,keyOf,c1,c2,c3,mU,vr,eC];refine⟨by simpa[Qe]using hk,by simpa[Qe]using hky,aN,⟨j+1+1,_,by simp,by omega,ha,rfl⟩,by omega⟩
 obtain rfl:i=L.length:=by omega
 rw[zzan (by simp)]at ha;have ha:true=T:=by rw[<- ha];simp[Kl]
 subst ha;simp[wX,mU,vr]
def Uv(p:Pl):Bool:=wi p.ch 0 39&&(Vb p.nu p.de&&(Vy p.of p.sh&&(wi p.ep 0 9000000000&&(wi p.rg 1 8&&wi p.ln 1 100000000))))
def xk(p:Pl):Nat->FuncId->List AV->AV:=fun _ f l=>
 if f=183 then .bool (Vb p.nu p.de)else if f=184 then .bool (Vy p.of p.sh)else(match l with|[.int _ n,.int _ lo,.int _ up]=>.bool (wi n lo up)|_=>.junk)
def afD(p:Pl)(gH:p.sh.length<=1000000000):Pure Tryz.prog aq 192 [.ep (Qc p++[.junk,.junk]) 0] (.bool (Uv p)):=by
 have h1:=Yx p.ch 0 39;have h2:=Wm p.nu p.de;have h3:=jt p.of p.sh gH;have h4:=Yx p.ep 0 9000000000;have h5:=Yx p.rg 1 8;have h6:=Yx p.ln 1 100000000;refine Qn adu (xk p) (by simp) ?_;cases e1:wi p.ch 0 39 with
 |false=>rw[e1]at h1;simp[u9,va,Qc,xk,Uv,e1];exact h1
 |true=>
  rw[e1]at h1;cases e2:Vb p.nu p.de with
  |false=>rw[e2]at h2;simp[u9,va,Qc,xk,Uv,e1,e2];exact⟨h1,h2⟩
  |true=>
   rw[e2]at h2;cases e3:Vy p.of p.sh with
   |false=>rw[e3]at h3;simp[u9,va,Qc,xk,Uv,e1,e2,e3];exact⟨h1,h2,h3⟩
   |true=>
    rw[e3]at h3;cases e4:wi p.ep 0 9000000000 with
    |false=>rw[e4]at h4;simp[u9,va,Qc,xk,Uv,e1,e2,e3,e4];exact⟨h1,h2,h3,h4⟩
    |true=>
     rw[e4]at h4;cases e5:wi p.rg 1 8 with
     |false=>rw[e5]at h5;simp[u9,va,Qc,xk,Uv,e1,e2,e3,e4,e5];exact⟨h1,h2,h3,h4,h5⟩
     |true=>rw[e5]at h5;simp[u9,va,Qc,xk,Uv,e1,e2,e3,e4,e5];exact⟨h1,h2,h3,h4,h5,h6⟩
def afE:List Cl->Bool
 |[]=>true
 |c::r=>Xi c&&afE r
def Qdd(p:Pl):Bool:=decide (p.cls.length<=400)&&afE p.cls
def A6:Nat->FuncId->List AV->AV:=fun _ _ l=>match l with
 |[.agg [.int _ a,.int _ b,.int _ c,.int _ d,.int _ e,.int _ f,.int _ g,.int _ h]]=>.bool (Xi ⟨a,b,c,d,e,f,g,h⟩)
 |_=>.junk
def Rw(p:Pl)(hc:p.cls.length<=1000000000):Pure Tryz.prog aq 196 [.ep (Qc p++[.junk,.junk]) 0] (.bool (Qdd p)):=by
 refine Qn ady A6 (by simp) ?_;by_cases h0:p.cls.length<=400
 ·have za:¬(400:Int)<(p.cls.length:Int):=by omega
  obtain⟨T,hT⟩:∃T,Qdd p=T:=⟨_,rfl⟩;rw[hT];simp[UZ,Qc,za];refine Qi BW (Oq 18 p.cls.length fun i=>afE (p.cls.drop i)=T) (fun f _=>p.cls.length-(numOf (f 18)).toNat) ?_ ?_
  ·exact⟨0,_,by simp,by omega,by rw[<- hT];simp[Qdd,h0],rfl⟩
  rintro f m ⟨i,bx,h18,hi,ha,rfl⟩;rcases zzaa i p.cls.length with ai|bw
  ·obtain⟨x,hx⟩:=aP ai;have aa:Qh (p.cls.map Qg) i=Qg x:=Qr (by simp[hx]);have ah:(i:Int)<(p.cls.length:Int):=by omega
   have hw:=bH i (by omega);have hk:=Ko x;rw[Xy hx,afE]at ha;cases hv:Xi x with
   |false=>
    rw[hv]at ha hk;simp at ha;simp[h18,ah,aa,Qg,A6,hv,BW,ED,ha];simpa[Qg]using hk
   |true=>
    rw[hv]at ha hk;simp at ha;simp[h18,ah,aa,Qg,A6,hv,BW,ED,hw];refine⟨by simpa[Qg]using hk,aN,⟨i+1,_,by simp,by omega,ha,rfl⟩,by omega⟩
  obtain rfl:i=p.cls.length:=by omega
  rw[zzbo]at ha;have ha:true=T:=ha;subst ha;simp[h18,BW,ED]
 have za:(400:Int)<(p.cls.length:Int):=by omega
 simp[UZ,ED,Qc,Qdd,h0,za]
open Go Go.Abs
def mI(l:List It):List (List Int×AV):=l.map fun x=>([x.id],.agg (Qm x))
def mK(l:List Bk):List (List Int×AV):=l.map fun x=>([x.id],.agg (Xa x))
def Gk(id:Int):List Bk->Option Bk
 |[]=>none
 |x::r=>if x.id=id then some x else Gk id r
def xm{k:List Int}:∀{kvs:List (List Int×AV)}{i:Nat},(∀p∈kvs,p.1≠k)->Xh k kvs i=none
 |[],_,_=>rfl
 |(k',a)::r,i,h=>by
  rw[Xh,if_neg (fun e=>h (k',a) (by simp) e.symm)];exact xm fun p hp=>h p (by simp[hp])
def anG(id:Int):∀(l:List It)(i:Nat),(Xg id l=none->Xh [id] (mI l) i=none)/\∀x,Xg id l=some x->∃n,Xh [id] (mI l) i=some (n,.agg (Qm x))
 |[],i=>⟨fun _=>rfl,fun x h=>by cases h⟩
 |y::r,i=>by
  have ih:=anG id r (i+1);simp only[mI,zzay,Xh,Xg]at ih |-
  by_cases h:y.id=id
  ·rw[if_pos h,if_pos (by rw[h])];exact⟨fun h=>(by cases h),fun x h=>(by cases h;exact⟨i,rfl⟩)⟩
  rw[if_neg h,if_neg (by intro e;cases e;exact h rfl)];exact ih
def atq(id:Int):∀(l:List Bk)(i:Nat),(Gk id l=none->Xh [id] (mK l) i=none)/\∀x,Gk id l=some x->∃n,Xh [id] (mK l) i=some (n,.agg (Xa x))
 |[],i=>⟨fun _=>rfl,fun x h=>by cases h⟩
 |y::r,i=>by
  have ih:=atq id r (i+1);simp only[mK,zzay,Xh,Gk]at ih |-
  by_cases h:y.id=id
  ·rw[if_pos h,if_pos (by rw[h])];exact⟨fun h=>(by cases h),fun x h=>(by cases h;exact⟨i,rfl⟩)⟩
  rw[if_neg h,if_neg (by intro e;cases e;exact h rfl)];exact ih
def kX{lo up:Int}:∀{ks:List Int}{pr:Option Int},Kl lo up pr ks=true->ks.Pairwise (·<·)/\∀k∈ks,lo<=k/\k<=up/\∀q,pr=some q->q<k
 |[],pr,_=>⟨List.Pairwise.nil,fun k hk=>by cases hk⟩
 |k::r,pr,h=>by
  rw[Kl]at h;split at h
  ·cases h
  rename_i hn;simp only[not_or]at hn;obtain⟨h1,h2⟩:=kX h
  have hk:∀q,pr=some q->q<k:=fun q hq=>by
   have:=hn.2.2;subst hq;simp[Tm]at this;omega
  refine⟨zzbz.2 ⟨fun a ha=>(h2 a ha).2.2 k rfl,h1⟩,fun a ha=>?_⟩;rcases zzau.1 ha with rfl|ha
  ·exact⟨by omega,by omega,hk⟩
  obtain⟨g1,g2,g3⟩:=h2 a ha;refine⟨g1,g2,fun q hq=>?_⟩;have:=hk q hq;have:=g3 k rfl;omega
def xq{α:Type}{key:α->Int}{row:α->AV}{l:List α}{i:Nat}{x:α}(h:(l.map key).Pairwise (·<·))(hx:l[i]?=some x):Xh [key x] ((l.take i).map fun x=>([key x],row x)) 0=none:=by
 refine xm fun p hp=>?_;obtain⟨y,hy,rfl⟩:=zzaw.1 hp;obtain⟨j,hj,qg⟩:=zzft hy;rw[zzaq]at hj;rw[List.getElem_take]at qg;obtain⟨hi,hx⟩:=zza.1 hx
 have ai:key l[j]<key l[i]:=by
  have:=zzdi.1 h j i (by simp;omega) (by simpa using hi) (by omega);simpa using this
 intro e;rw[<- qg,<- hx]at e;simp only[List.cons.injEq,and_true]at e;omega
def Tn(x:It):Bool:=wi x.ki 1 5&&(wi x.fr 1 100000000&&(wi x.sp 0 200&&wi x.ra 0 3))
def xu:List It->Bool
 |[]=>true
 |x::r=>Tn x&&xu r
def wz(p:Pl):Bool:=match Xg p.fi p.aL with
 |some x=>decide (x.ki=5)
 |none=>false
def Tp(p:Pl):Bool:=decide (p.aL.length<=4000)&&(Kl 1 1000000 none (p.aL.map fun x=>x.id)&&(xu p.aL&&wz p))
def bU(p:Pl)(kI kB:List (List Int×AV))(bx:List (List AV)):AM:=⟨Qc p::[.aK 0 kI]::[.aK 0 kB]::(Qc p++[.mp 1,.mp 2])::bx,[],fun _=>.gone,0⟩
def afF(x:It):Idle (.agg (Qm x)):=Idle.agg fun c hc=>by
 simp only[Qm,zzau,zzdr,or_false]at hc;rcases hc with rfl|rfl|rfl|rfl|rfl<;>exact Idle.int _ _
def afG(x:Bk):Idle (.agg (Xa x)):=Idle.agg fun c hc=>by
 simp only[Xa,zzau,zzdr,or_false]at hc;rcases hc with rfl|rfl|rfl|rfl|rfl|rfl|rfl<;>exact Idle.int _ _
def BkK(p:Pl)(K:AV->AM->Prop)(r:AV)(m:AM):Prop:=∃kI kB bx,m=bU p kI kB bx/\(∀e∈kI,Idle e.2)/\(∀e∈kB,Idle e.2)/\Idle r/\K r (bU p kI kB [])
def A7{p:Pl}{K:AV->AM->Prop}{r:AV}{m:AM}(kI kB:List (List Int×AV))(bx:List (List AV))(hm:m=bU p kI kB bx)(h1:∀e∈kI,Idle e.2)(h2:∀e∈kB,Idle e.2)(h3:Idle r)(h4:K r (bU p kI kB [])):BkK p K r m:=⟨kI,kB,bx,hm,h1,h2,h3,h4⟩
def sL{f:FuncId}{xs:List AV}{p:Pl}{Y:YT}{k0 b0:List (List Int×AV)}{K:AV->AM->Prop}
  (h:an Tryz.prog aq Y f xs (bU p k0 b0 []) (BkK p K)):an Tryz.prog aq Y f xs (bU p k0 b0 []) K:=by
 refine an.forget (an.mono h ?_);rintro r m' ⟨kI,kB,bx,rfl,h1,h2,h3,h4⟩;refine⟨bU p kI kB [],bx,rfl,rfl,rfl,fun id cells hc=>?_,h3,h4⟩
 match id,hc with
 |0,hc=>exact .inl hc
 |1,hc=>cases hc;exact .inr (.inr ⟨0,kI,rfl,h1⟩)
 |2,hc=>cases hc;exact .inr (.inr ⟨0,kB,rfl,h2⟩)
 |3,hc=>exact .inl hc
 |n+4,hc=>cases hc
def pH(p:Pl):Nat->FuncId->List AV->AV:=fun _ f l=>
 if f=266 then .bool (Kl 1 1000000 none (p.aL.map fun x=>x.id))else(match l with|[.int _ n,.int _ lo,.int _ up]=>.bool (wi n lo up)|_=>.junk)
def Vp(l:List It):∀e∈mI l,Idle e.2:=fun e he=>by
 obtain⟨x,_,rfl⟩:=zzaw.1 he;exact afF x
def Qau(l:List Bk):∀e∈mK l,Idle e.2:=fun e he=>by
 obtain⟨x,_,rfl⟩:=zzaw.1 he;exact afG x
def afH{l:List It}{i:Nat}{x:It}(h:l[i]?=some x):mI (l.take (i+1))=mI (l.take i)++[([x.id],.agg (Qm x))]:=by
 simp[mI,zzar,h]
def afI{l:List Bk}{i:Nat}{x:Bk}(h:l[i]?=some x):mK (l.take (i+1))=mK (l.take i)++[([x.id],.agg (Xa x))]:=by
 simp[mK,zzar,h]
def Uw{P:List Int×AV->Prop}:∀e∈([]:List (List Int×AV)),P e:=fun e h=>by cases h
def akB(s n:Nat)(p:Pl)(kI kB:Nat->List (List Int×AV))(R:Nat->Prop)(f:Nat->AV)(m:AM):Prop:=∃(i:Nat)(bx:List (List AV)),f s=I i/\i<=n/\R i/\m=bU p (kI i) (kB i) bx
def afJ(p:Pl)(hl:p.aL.length<=1000000000)(Y:YT)(K:AV->AM->Prop)(hK1:Tp p=true->K (.bool true) (bU p (mI p.aL) [] []))(ry:Tp p=false->∀kI,K (.bool false) (bU p kI [] [])):
  an Tryz.prog aq Y 193 [.ptr 3 0] (bU p [] [] []) K:=by
 have Ot:=Rr p.aL 1 1000000 (by omega);refine sL ?_;refine Xe adv (pH p) (by simp) ?_;by_cases h0:p.aL.length<=4000
 ·have za:¬(4000:Int)<(p.aL.length:Int):=by omega
  cases ha:Kl 1 1000000 none (p.aL.map fun x=>x.id)with
  |false=>
   rw[ha]at Ot;simp[EB,ou,bU,Qc,za,pH,ha];exact⟨Ot,A7 _ _ _ rfl Uw Uw (Idle.bool _) (ry (by simp[Tp,ha]) [])⟩
  |true=>
   rw[ha]at Ot;have hp:=(kX ha).1;simp[EB,bU,Qc,za,pH,ha];refine⟨Ot,?_⟩;refine Qi iQ (akB 27 p.aL.length p (fun i=>mI (p.aL.take i)) (fun _=>[]) fun i=>xu (p.aL.drop i)=xu p.aL) (fun f _=>p.aL.length-(numOf (f 27)).toNat) ?_ ?_
   ·exact⟨0,[],by simp,by omega,by simp,by simp[bU,Qc,mI]⟩
   rintro f m ⟨i,bx,h27,hi,ei,rfl⟩;rcases zzaa i p.aL.length with ai|bw
   ·obtain⟨x,hx⟩:=aP ai;have aa:Qh (p.aL.map Qm) i=Qm x:=Qr (by simp[hx]);have ah:(i:Int)<(p.aL.length:Int):=by omega
    have hw:=bH i (by omega);have hkf:Xh [x.id] (mI (p.aL.take i)) 0=none:=xq (key:=fun x=>x.id) (row:=fun x=>.agg (Qm x)) hp hx;have bA:=afH hx;rw[Xy hx,xu]at ei;have h1:=Yx x.ki 1 5;have h2:=Yx x.fr 1 100000000;have h3:=Yx x.sp 0 200;have h4:=Yx x.ra 0 3;have bad:Tn x=false->Tp p=false:=fun h=>by rw[h]at ei;simp[Tp,<- ei]
    cases e1:wi x.ki 1 5 with
    |false=>
     rw[e1]at h1;simp[h27,ah,aa,Qm,bU,Qc,pH,e1,iQ,ou];exact⟨h1,A7 _ _ _ rfl (Vp _) Uw (Idle.bool _) (ry (bad (by simp[Tn,e1])) _)⟩
    |true=>
     rw[e1]at h1;cases e2:wi x.fr 1 100000000 with
     |false=>
      rw[e2]at h2;simp[h27,ah,aa,Qm,bU,Qc,pH,e1,e2,iQ,ou];exact⟨h1,h2,A7 _ _ _ rfl (Vp _) Uw (Idle.bool _) (ry (bad (by simp[Tn,e1,e2])) _)⟩
     |true=>
      rw[e2]at h2;cases e3:wi x.sp 0 200 with
      |false=>
       rw[e3]at h3;simp[h27,ah,aa,Qm,bU,Qc,pH,e1,e2,e3,iQ,ou];exact⟨h1,h2,h3,A7 _ _ _ rfl (Vp _) Uw (Idle.bool _) (ry (bad (by simp[Tn,e1,e2,e3])) _)⟩
      |true=>
       rw[e3]at h3;cases e4:wi x.ra 0 3 with
       |false=>
        rw[e4]at h4;simp[h27,ah,aa,Qm,bU,Qc,pH,e1,e2,e3,e4,iQ,ou];exact⟨h1,h2,h3,h4,A7 _ _ _ rfl (Vp _) Uw (Idle.bool _) (ry (bad (by simp[Tn,e1,e2,e3,e4])) _)⟩
       |true=>
        rw[e4]at h4;have bT:Tn x=true:=by simp[Tn,e1,e2,e3,e4]
        rw[bT,zzdz]at ei;simp[h27,ah,aa,Qm,bU,Qc,pH,e1,e2,e3,e4,iQ,hw,hkf];refine⟨h1,h2,h3,h4,aN,⟨i+1,bx++[Qm x],by simp,by omega,ei,?_⟩,by omega⟩
        ·simp only[bA];simp[Qm,bU,Qc]
   have bJ:¬(i:Int)<(p.aL.length:Int):=by omega
   rw[zzan bw]at ei;have qQ:p.aL.take i=p.aL:=zzam bw;simp only[qQ];have ei:xu p.aL=true:=by rw[<- ei];rfl
   obtain⟨g1,g2⟩:=anG p.fi p.aL 0;cases hf:Xg p.fi p.aL with
   |none=>
    have g:=g1 hf;simp[h27,bJ,iQ,ou,bU,Qc,g];exact A7 _ _ _ rfl (Vp _) Uw (Idle.bool _) (ry (by simp[Tp,wz,hf]) _)
   |some x=>
    obtain⟨n,g⟩:=g2 x hf;simp[h27,bJ,iQ,ou,bU,Qc,g,Qm];by_cases h5:x.ki=5
    ·simp only[h5];exact A7 _ _ _ rfl (Vp _) Uw (Idle.bool _) (hK1 (by simp[Tp,wz,hf,h0,ha,ei,h5]))
    have h5':(x.ki==5)=false:=by simpa using h5
    rw[h5'];exact A7 _ _ _ rfl (Vp _) Uw (Idle.bool _) (ry (by simp[Tp,wz,hf,h5]) _)
 have za:(4000:Int)<(p.aL.length:Int):=by omega
 simp[EB,ou,bU,Qc,za,pH];exact A7 _ _ _ rfl Uw Uw (Idle.bool _) (ry (by simp[Tp,h0]) [])
open Go Go.Abs
def C8(x:Bk):Bool:=decide (0<=x.fr)&&(decide (x.fr<x.to)&&(decide (x.to<=x.un)&&decide (x.un<=100000000)))
def kindOf(p:Pl)(id:Int):Int:=match Xg id p.aL with
 |some y=>y.ki
 |none=>0
def ZA(p:Pl)(x:Bk):Bool:=decide (kindOf p x.it=2)&&(wi x.re 0 (p.rg-1)&&(C8 x&&wi x.pr 0 1000000000))
def Rx(p:Pl):List Bk->Bool
 |[]=>true
 |x::r=>ZA p x&&Rx p r
def jJ(p:Pl):Bool:=decide (p.bks.length<=2000)&&(Kl 1 1000000 none (p.bks.map fun x=>x.id)&&Rx p p.bks)
def C9(p:Pl)(id:Int):∃r,Xh [id] (mI p.aL) 0=r/\((∃n x,Xg id p.aL=some x/\r=some (n,.agg (Qm x)))\/(Xg id p.aL=none/\r=none)):=by
 obtain⟨g1,g2⟩:=anG id p.aL 0;cases hf:Xg id p.aL with
 |none=>exact⟨_,rfl,.inr ⟨rfl,g1 hf⟩⟩
 |some x=>
  obtain⟨n,g⟩:=g2 x hf;exact⟨_,rfl,.inl ⟨n,x,rfl,g⟩⟩
def Ry(p:Pl):Nat->FuncId->List AV->AV:=fun _ f l=>
 if f=267 then .bool (Kl 1 1000000 none (p.bks.map fun x=>x.id))else(match l with|[.int _ n,.int _ lo,.int _ up]=>.bool (wi n lo up)|_=>.junk)
def afK(p:Pl)(hl:p.bks.length<=8796093022208)(Ou:1<=p.rg/\p.rg<=8)(Y:YT)(K:AV->AM->Prop)(hK1:jJ p=true->K (.bool true) (bU p (mI p.aL) (mK p.bks) []))(ry:jJ p=false->∀kB,K (.bool false) (bU p (mI p.aL) kB [])):
  an Tryz.prog aq Y 194 [.ptr 3 0] (bU p (mI p.aL) [] []) K:=by
 have Ot:=Ru p.bks 1 1000000 hl;refine sL ?_;refine Xe adw (Ry p) (by simp) ?_;by_cases h0:p.bks.length<=2000
 ·have za:¬(2000:Int)<(p.bks.length:Int):=by omega
  cases ha:Kl 1 1000000 none (p.bks.map fun x=>x.id)with
  |false=>
   rw[ha]at Ot;simp[EC,fK,bU,Qc,za,Ry,ha];exact⟨Ot,A7 _ _ _ rfl (Vp _) Uw (Idle.bool _) (ry (by simp[jJ,ha]) [])⟩
  |true=>
   rw[ha]at Ot;have hp:=(kX ha).1;simp[EC,bU,Qc,za,Ry,ha];refine⟨Ot,?_⟩;refine Qi eF (akB 28 p.bks.length p (fun _=>mI p.aL) (fun i=>mK (p.bks.take i)) fun i=>Rx p (p.bks.drop i)=Rx p p.bks) (fun f _=>p.bks.length-(numOf (f 28)).toNat) ?_ ?_
   ·exact⟨0,[],by simp,by omega,by simp,by simp[bU,Qc,mK]⟩
   rintro f m ⟨i,bx,h28,hi,ei,rfl⟩;rcases zzaa i p.bks.length with ai|bw
   ·obtain⟨x,hx⟩:=aP ai;have aa:Qh (p.bks.map Xa) i=Xa x:=Qr (by simp[hx]);have ah:(i:Int)<(p.bks.length:Int):=by omega
    have hw:=bH i (by omega);have qo:IntKind.i64.wrap (p.rg-1)=p.rg-1:=by rw[Qk]<;>omega
    have hkf:Xh [x.id] (mK (p.bks.take i)) 0=none:=xq (key:=fun x=>x.id) (row:=fun x=>.agg (Xa x)) hp hx;have bA:=afI hx;rw[Xy hx,Rx]at ei;have h1:=Yx x.re 0 (p.rg-1);have h2:=Yx x.pr 0 1000000000;have bad:ZA p x=false->jJ p=false:=fun h=>by rw[h]at ei;simp[jJ,<- ei]
    obtain⟨r,hr,Rz⟩:=C9 p x.it;by_cases eT:kindOf p x.it=2
    ·obtain⟨n,y,hf,rfl⟩|⟨hf,rfl⟩:=Rz
     ·have hy:y.ki=2:=by simpa[kindOf,hf]using eT
      cases e1:wi x.re 0 (p.rg-1)with
      |false=>
       rw[e1]at h1;simp[h28,ah,aa,Xa,bU,Qc,Ry,hr,Qm,hy,qo,e1,eF,fK];exact⟨h1,A7 _ _ _ rfl (Vp _) (Qau _) (Idle.bool _) (ry (bad (by simp[ZA,e1])) _)⟩
      |true=>
       rw[e1]at h1;cases e2:C8 x with
       |false=>
        have e2':¬(0<=x.fr)\/(0<=x.fr/\¬x.fr<x.to)\/(0<=x.fr/\x.fr<x.to/\¬x.to<=x.un)\/(0<=x.fr/\x.fr<x.to/\x.to<=x.un/\¬x.un<=100000000):=by
         simp[C8]at e2;omega
        obtain c1|⟨c1,c2⟩|⟨c1,c2,c3⟩|⟨c1,c2,c3,c4⟩:=e2'
        ·simp[h28,ah,aa,Xa,bU,Qc,Ry,hr,Qm,hy,qo,e1,c1,eF,fK];exact⟨h1,A7 _ _ _ rfl (Vp _) (Qau _) (Idle.bool _) (ry (bad (by simp[ZA,e1,e2])) _)⟩
        ·simp[h28,ah,aa,Xa,bU,Qc,Ry,hr,Qm,hy,qo,e1,c1,c2,eF,fK];exact⟨h1,A7 _ _ _ rfl (Vp _) (Qau _) (Idle.bool _) (ry (bad (by simp[ZA,e1,e2])) _)⟩
        ·simp[h28,ah,aa,Xa,bU,Qc,Ry,hr,Qm,hy,qo,e1,c1,c2,c3,eF,fK];exact⟨h1,A7 _ _ _ rfl (Vp _) (Qau _) (Idle.bool _) (ry (bad (by simp[ZA,e1,e2])) _)⟩
        simp[h28,ah,aa,Xa,bU,Qc,Ry,hr,Qm,hy,qo,e1,c1,c2,c3,c4,eF,fK];exact⟨h1,A7 _ _ _ rfl (Vp _) (Qau _) (Idle.bool _) (ry (bad (by simp[ZA,e1,e2])) _)⟩
       |true=>
        have e2':0<=x.fr/\x.fr<x.to/\x.to<=x.un/\x.un<=100000000:=by
         simp[C8]at e2;omega
        obtain⟨c1,c2,c3,c4⟩:=e2';cases e3:wi x.pr 0 1000000000 with
        |false=>
         rw[e3]at h2;simp[h28,ah,aa,Xa,bU,Qc,Ry,hr,Qm,hy,qo,e1,c1,c2,c3,c4,e3,eF,fK];exact⟨h1,h2,A7 _ _ _ rfl (Vp _) (Qau _) (Idle.bool _) (ry (bad (by simp[ZA,e1,e2,e3])) _)⟩
        |true=>
         rw[e3]at h2;have bT:ZA p x=true:=by simp[ZA,eT,e1,e2,e3]
         rw[bT,zzdz]at ei;simp[h28,ah,aa,Xa,bU,Qc,Ry,hr,Qm,hy,qo,e1,c1,c2,c3,c4,e3,eF,fK,hw,hkf];refine⟨h1,h2,aN,⟨i+1,bx++[Xa x],by simp,by omega,ei,?_⟩,by omega⟩
         ·simp only[bA];simp[Xa,bU,Qc]
     simp[kindOf,hf]at eT
    have hb:=bad (by simp[ZA,eT]);obtain⟨n,y,hf,rfl⟩|⟨hf,rfl⟩:=Rz
    ·have hy:¬y.ki=2:=by simpa[kindOf,hf]using eT
     simp[h28,ah,aa,Xa,bU,Qc,Ry,hr,Qm,hy,qo,eF,fK];exact A7 _ _ _ rfl (Vp _) (Qau _) (Idle.bool _) (ry hb _)
    simp[h28,ah,aa,Xa,bU,Qc,Ry,hr,qo,eF,fK];exact A7 _ _ _ rfl (Vp _) (Qau _) (Idle.bool _) (ry hb _)
   have bJ:¬(i:Int)<(p.bks.length:Int):=by omega
   rw[zzan bw]at ei;have qQ:p.bks.take i=p.bks:=zzam bw;simp only[qQ];have ei:Rx p p.bks=true:=by rw[<- ei];rfl
   simp[h28,bJ,eF,fK,bU,Qc];exact A7 _ _ _ rfl (Vp _) (Qau _) (Idle.bool _) (hK1 (by simp[jJ,h0,ha,ei]))
 have za:(2000:Int)<(p.bks.length:Int):=by omega
 simp[EC,fK,bU,Qc,za,Ry];exact A7 _ _ _ rfl (Vp _) Uw (Idle.bool _) (ry (by simp[jJ,h0]) [])
open Go Go.Abs
def RdK(m:AM)(K:AV->AM->Prop)(r:AV)(m':AM):Prop:=∃ex,m'={m with boxes:=m.boxes++ex}/\Idle r/\K r m
def pI{m:AM}{K:AV->AM->Prop}{r:AV}{m':AM}(ex:List (List AV))(hm:m'={m with boxes:=m.boxes++ex})(hi:Idle r)(hK:K r m):RdK m K r m':=⟨ex,hm,hi,hK⟩
def Kr{f:FuncId}{xs:List AV}{m:AM}{Y:YT}{K:AV->AM->Prop}(h:an Tryz.prog aq Y f xs m (RdK m K)):an Tryz.prog aq Y f xs m K:=by
 refine an.mono (an.read (K:=fun r=>K r m) (an.mono h fun r m' h=>h)) ?_;rintro r m' ⟨rfl,h⟩;exact h
def pJ:∀{l:List It},xu l=true->∀x∈l,Tn x=true
 |y::r,h,x,hx=>by
  rw[xu,zzak]at h;rcases zzau.1 hx with rfl|hx
  ·exact h.1
  exact pJ h.2 x hx
def ZB{x:It}(h:Tn x=true):(1<=x.ki/\x.ki<=5)/\(1<=x.fr/\x.fr<=100000000)/\(0<=x.sp/\x.sp<=200)/\(0<=x.ra/\x.ra<=3):=by
 simp only[Tn,wi,zzak,decide_eq_true_eq]at h;exact h
def jK(p:Pl)(e:En):Bool:=match Xg e.it p.aL with
 |none=>false
 |some y=>if y.ki=5 then false else if wi e.fr 1 y.fr=false then false else if y.ki≠4/\e.fr≠y.fr then false else decide (0<=e.ea)&&(decide (e.ea<=e.la)&&decide (e.la<=p.ln-e.fr))
def jL:Nat->FuncId->List AV->AV:=fun _ f l=>match l with|[.int _ n,.int _ lo,.int _ up]=>.bool (wi n lo up)|_=>.junk
def anH(p:Pl)(e:En)(kB:List (List Int×AV))(bx:List (List AV))(ZC:xu p.aL=true)(dx:1<=p.ln/\p.ln<=100000000)(Y:YT)(K:AV->AM->Prop)(hK:∀b,jK p e=b->K (.bool b) (bU p (mI p.aL) kB bx)):
  an Tryz.prog aq Y 269 [.ptr 3 0,.agg (Qd e)] (bU p (mI p.aL) kB bx) K:=by
 refine Kr (Xe aem jL (by simp) ?_);obtain⟨r,hr,Rz⟩:=C9 p e.it;simp[ajl,ajm,bU,Qc,Qd];refine Xz ?_;obtain⟨n,y,hf,rfl⟩|⟨hf,rfl⟩:=Rz
 ·obtain⟨g1,g2,g3,g4⟩:=ZB (pJ ZC y (xw hf).1);have h1:=Yx e.fr 1 y.fr;by_cases c1:y.ki=5
  ·simp[hr,Qm,c1];exact pI _ rfl (Idle.bool _) (hK _ (by simp[jK,hf,c1]))
  cases c2:wi e.fr 1 y.fr with
  |false=>
   rw[c2]at h1;simp[hr,Qm,c1,c2,jL];exact⟨h1,pI _ rfl (Idle.bool _) (hK _ (by simp[jK,hf,c1,c2]))⟩
  |true=>
   rw[c2]at h1;have c2':1<=e.fr/\e.fr<=y.fr:=by simpa[wi]using c2
   have hw:IntKind.i64.wrap (p.ln-e.fr)=p.ln-e.fr:=by rw[Qk]<;>omega
   by_cases c3:y.ki≠4/\e.fr≠y.fr
   ·simp[hr,Qm,c1,c2,jL,c3.1,c3.2];exact⟨h1,pI _ rfl (Idle.bool _) (hK _ (by simp[jK,hf,c1,c2,c3.1,c3.2]))⟩
   have fin:∀b,(decide (0<=e.ea)&&(decide (e.ea<=e.la)&&decide (e.la<=p.ln-e.fr)))=b->jK p e=b:=fun b hb=>by
    rw[jK,hf];simp only;rw[if_neg c1,if_neg (by simp[c2]),if_neg c3];exact hb
   have c3':y.ki=4\/(¬y.ki=4/\e.fr=y.fr):=by
    by_cases h:y.ki=4
    ·exact .inl h
    exact .inr ⟨h,by by_cases h':e.fr=y.fr;exact h';exact absurd ⟨h,h'⟩ c3⟩
   by_cases d1:0<=e.ea
   ·by_cases d2:e.ea<=e.la
    ·by_cases d3:e.la<=p.ln-e.fr
     ·obtain c|⟨c,c'⟩:=c3'
      ·simp[hr,Qm,c2,jL,c,hw,d1,d2,d3];exact⟨h1,pI _ rfl (Idle.bool _) (hK _ (fin _ (by simp[d1,d2,d3])))⟩
      rw[<- c']at c2 h1;simp[hr,Qm,c1,c2,jL,c,<- c',hw,d1,d2,d3];exact⟨h1,pI _ rfl (Idle.bool _) (hK _ (fin _ (by simp[d1,d2,d3])))⟩
     obtain c|⟨c,c'⟩:=c3'
     ·simp[hr,Qm,c2,jL,c,hw,d1,d2,d3];exact⟨h1,pI _ rfl (Idle.bool _) (hK _ (fin _ (by simp[d1,d2,d3])))⟩
     rw[<- c']at c2 h1;simp[hr,Qm,c1,c2,jL,c,<- c',hw,d1,d2,d3];exact⟨h1,pI _ rfl (Idle.bool _) (hK _ (fin _ (by simp[d1,d2,d3])))⟩
    obtain c|⟨c,c'⟩:=c3'
    ·simp[hr,Qm,c2,jL,c,d1,d2];exact⟨h1,pI _ rfl (Idle.bool _) (hK _ (fin _ (by simp[d1,d2])))⟩
    rw[<- c']at c2 h1;simp[hr,Qm,c1,c2,jL,c,<- c',d1,d2];exact⟨h1,pI _ rfl (Idle.bool _) (hK _ (fin _ (by simp[d1,d2])))⟩
   obtain c|⟨c,c'⟩:=c3'
   ·simp[hr,Qm,c2,jL,c,d1];exact⟨h1,pI _ rfl (Idle.bool _) (hK _ (fin _ (by simp[d1])))⟩
   rw[<- c']at c2 h1;simp[hr,Qm,c1,c2,jL,c,<- c',d1];exact⟨h1,pI _ rfl (Idle.bool _) (hK _ (fin _ (by simp[d1])))⟩
 simp[hr];exact pI _ rfl (Idle.bool _) (hK _ (by simp[jK,hf]))
open Go Go.Abs
def zD(p:Pl)(e:En)(a:Sp):Bool:=match Xg a.2 p.aL with
 |none=>false
 |some y=>decide (y.fr=e.fr)&&(decide (y.ki≠5)&&decide (y.ki≠4))
def Ov(p:Pl)(e:En)(kB:List (List Int×AV))(b0:List (List AV)):AM:=bU p (mI p.aL) kB (b0++[[.ptr 3 0],Qd e])
def rdA{p:Pl}{e:En}{kB:List (List Int×AV)}{b0:List (List AV)}{K:AV->AM->Prop}{r:AV}{m':AM}(ex:List (List AV))(hm:m'=bU p (mI p.aL) kB (b0++([.ptr 3 0]::Qd e::ex)))(hi:Idle r)(hK:K r (Ov p e kB b0)):RdK (Ov p e kB b0) K r m':=
 pI ex (by rw[hm];simp[Ov,bU]) hi hK
def ZD(p:Pl)(e:En)(a:Sp)(kB:List (List Int×AV))(b0:List (List AV))(Y:YT)(K:AV->AM->Prop)(hK:K (.bool (!zD p e a)) (Ov p e kB b0)):
  an Tryz.prog aq Y 315 [.agg (Qe a),.ptr (b0.length+4) 0,.ptr (b0.length+5) 0] (Ov p e kB b0) K:=by
 refine Kr (Xe aeD (fun _ _ _=>.junk) (by simp) ?_);obtain⟨r,hr,Rz⟩:=C9 p a.2;simp[ajB,ajC,Ov,bU,Qc,Qd,Qe];refine Xz ?_;obtain⟨n,y,hf,rfl⟩|⟨hf,rfl⟩:=Rz
 ·by_cases c1:y.fr=e.fr
  ·by_cases c2:y.ki=5
   ·have:(!zD p e a)=true:=by simp[zD,hf,c1,c2]
    rw[this]at hK;simp[hr,Qm,c1,c2];exact rdA _ rfl (Idle.bool _) hK
   by_cases c3:y.ki=4
   ·have:(!zD p e a)=true:=by simp[zD,hf,c1,c3]
    rw[this]at hK;simp[hr,Qm,c1,c3];exact rdA _ rfl (Idle.bool _) hK
   have:(!zD p e a)=false:=by simp[zD,hf,c1,c2,c3]
   rw[this]at hK;have h':(y.ki==5||y.ki==4)=false:=by simp[c2,c3]
   simp[hr,Qm,c1,c2];rw[h'];exact rdA _ rfl (Idle.bool _) hK
  have:(!zD p e a)=true:=by simp[zD,hf,c1]
  rw[this]at hK;have h':(y.fr !=e.fr||y.ki==5||y.ki==4)=true:=by simp[c1]
  simp[hr,Qm,c1];rw[h'];exact rdA _ rfl (Idle.bool _) hK
 have:(!zD p e a)=true:=by simp[zD,hf]
 rw[this]at hK;simp[hr];exact rdA _ rfl (Idle.bool _) hK
def jM{α:Type}(b:α->Bool):List α->Nat->Int
 |[],_=> -1
 |x::r,i=>if b x=true then(i:Int)else jM b r (i+1)
def xx{α:Type}(b:α->Bool):∀(l:List α)(i:Nat),(0<=jM b l i<->l.any b=true)
 |[],i=>by simp[jM]
 |x::r,i=>by
  rw[jM];cases h:b x with
  |true=>simp[h]
  |false=>simp[h,xx b r (i+1)]
def atr(s n:Nat)(m0:AM)(R:Nat->Prop)(f:Nat->AV)(m:AM):Prop:=∃(i:Nat),f s=I i/\i<=n/\R i/\m=m0
def ZE(p:Pl)(e:En)(L:List Sp)(hl:L.length<=8796093022208)(kB:List (List Int×AV))(b0:List (List AV))(Y:YT)(K:AV->AM->Prop)(hK:K (I (jM (fun a=>!zD p e a) L 0)) (Ov p e kB b0)):
  an Tryz.prog aq Y 345 [.sl .ro (L.map Qe),.fn 315 [] [.ptr (b0.length+4) 0,.ptr (b0.length+5) 0]] (Ov p e kB b0) K:=by
 obtain⟨T,hT⟩:∃T,jM (fun a=>!zD p e a) L 0=T:=⟨_,rfl⟩;rw[hT]at hK;refine Xe aeL (fun _ _ _=>.gd false .junk) (by simp) ?_;simp[ajQ];refine Qi JS (atr 8 L.length (Ov p e kB b0) fun i=>jM (fun a=>!zD p e a) (L.drop i) i=T) (fun f _=>L.length-(numOf (f 8)).toNat) ?_ ?_
 ·exact⟨0,by simp,by omega,by simpa using hT,rfl⟩
 rintro f m ⟨i,h8,hi,hx,rfl⟩;rcases zzaa i L.length with ai|bw
 ·obtain⟨a,ha⟩:=aP ai;have aa:=Zd ha;have ah:(i:Int)<(L.length:Int):=by omega
  have hw:=bH i (by omega);rw[Xy ha,jM]at hx;simp[h8,ah,aa,JS,VX];refine ZD p e a kB b0 Y _ ?_;cases hb:zD p e a with
  |false=>
   rw[hb]at hx;simp at hx;simp[hx];exact hK
  |true=>
   rw[hb]at hx;simp at hx;simp[hw];refine⟨aN,⟨i+1,by simp,by omega,hx,rfl⟩,by omega⟩
 have bJ:¬(i:Int)<(L.length:Int):=by omega
 rw[zzan bw,jM]at hx;simp[h8,bJ,JS,VX,hx];exact hK
def Lo(p:Pl)(e:En)(L:List Sp)(hl:L.length<=8796093022208)(kB:List (List Int×AV))(b0:List (List AV))(Y:YT)(K:AV->AM->Prop)(hK:K (.bool (L.any fun a=>!zD p e a)) (Ov p e kB b0)):
  an Tryz.prog aq Y 316 [.sl .ro (L.map Qe),.fn 315 [] [.ptr (b0.length+4) 0,.ptr (b0.length+5) 0]] (Ov p e kB b0) K:=by
 have anI:=xx (fun a=>!zD p e a) L 0;refine Xe aeE (fun _ _ _=>.gd false .junk) (by simp) ?_;simp[ajD];refine ZE p e L hl kB b0 Y _ ?_
 have:decide (0<=jM (fun a=>!zD p e a) L 0)=L.any fun a=>!zD p e a:=by
  rw[zzbh,decide_eq_true_eq];exact anI
 simp[ajE,this];simpa using hK
def mG(p:Pl)(e:En):Bool:=Kl 1 (p.rg-1) none (e.al.map fun x=>x.1)&&(!(decide (kindOf p e.it=4)&&decide (e.al≠[]))&&!(e.al.any fun a=>!zD p e a))
def A8(p:Pl)(e:En):Nat->FuncId->List AV->AV:=fun _ f _=>if f=313 then .bool (Kl 1 (p.rg-1) none (e.al.map fun x=>x.1))else .gd false .junk
def anJ(p:Pl)(e:En)(hl:e.al.length<=8796093022208)(Ou:1<=p.rg/\p.rg<=8)(kB:List (List Int×AV))(bx:List (List AV))(Y:YT)(K:AV->AM->Prop)(hK:∀b,mG p e=b->K (.bool b) (bU p (mI p.aL) kB bx)):
  an Tryz.prog aq Y 270 [.ptr 3 0,.agg (Qd e)] (bU p (mI p.aL) kB bx) K:=by
 have Gl:=Rv e.al 1 (p.rg-1) hl;refine Kr (Xe aen (A8 p e) (by simp) ?_);obtain⟨r,hr,Rz⟩:=C9 p e.it;have qo:IntKind.i64.wrap (p.rg-1)=p.rg-1:=by rw[Qk]<;>omega
 cases h1:Kl 1 (p.rg-1) none (e.al.map fun x=>x.1)with
 |false=>
  rw[h1]at Gl;simp[Ah,Ai,bU,Qc,Qd,qo,A8,h1];exact⟨Gl,pI _ rfl (Idle.bool _) (hK _ (by simp[mG,h1]))⟩
 |true=>
  rw[h1]at Gl;have tl:∀(E:List (Nat×AV)),True:=fun _=>trivial;have hgo:kindOf p e.it=4->e.al≠[]->mG p e=false:=fun h h'=>by simp[mG,h,h']
  have ue:¬(kindOf p e.it=4/\e.al≠[])->mG p e=!(e.al.any fun a=>!zD p e a):=fun h=>by
   have:(decide (kindOf p e.it=4)&&decide (e.al≠[]))=false:=by
    rw[Bool.eq_false_iff];intro h';simp at h';exact h h'
   rw[mG,h1,this];rfl
  obtain⟨n,y,hf,rfl⟩|⟨hf,rfl⟩:=Rz
  ·have hkd:kindOf p e.it=y.ki:=by simp[kindOf,hf]
   by_cases c1:y.ki=4
   ·by_cases c2:e.al=[]
    ·have QT:=ue (by simp[c2]);have c2l:¬0<e.al.length:=by simp[c2]
     simp[Ah,Ai,bU,Qc,Qd,qo,A8,hr,Qm,c1,c2];rw[c2]at Gl;refine⟨Gl,?_⟩;have:=Lo p e [] (by simp) kB bx Y;simp only[Ov,bU,Qc,Qd,c2]at this;refine this _ ?_;simp;exact pI _ rfl (Idle.bool _) (hK _ (by rw[QT,c2];rfl))
    have c2l:0<e.al.length:=zzcu.2 c2;simp[Ah,Ai,bU,Qc,Qd,qo,A8,h1,hr,Qm,c1,c2l];exact⟨Gl,pI _ rfl (Idle.bool _) (hK _ (hgo (by rw[hkd,c1]) c2))⟩
   have QT:=ue (by rw[hkd];exact fun h=>c1 h.1);simp[Ah,Ai,bU,Qc,Qd,qo,A8,h1,hr,Qm,c1];refine⟨Gl,?_⟩;have:=Lo p e e.al hl kB bx Y;simp only[Ov,bU,Qc,Qd]at this;refine this _ ?_;simp;exact pI _ rfl (Idle.bool _) (hK _ (by rw[QT]))
  have QT:=ue (by simp[kindOf,hf]);simp[Ah,Ai,bU,Qc,Qd,qo,A8,h1,hr];refine⟨Gl,?_⟩;have:=Lo p e e.al hl kB bx Y;simp only[Ov,bU,Qc,Qd]at this;refine this _ ?_;simp;exact pI _ rfl (Idle.bool _) (hK _ (by rw[QT]))
open Go Go.Abs
def xy(x a:Sp):Bool:=x.1==a.1&&x.2==a.2
def ZF(x:Sp)(L:List Sp):L.any (xy x)=decide (x∈L):=by
 rw[zzbh];simp only[zzby,decide_eq_true_eq,xy,zzak,beq_iff_eq];constructor
 ·rintro⟨a,h,h1,h2⟩;have:x=a:=Prod.ext h1 h2;rw[this];exact h
 exact fun h=>⟨x,h,rfl,rfl⟩
def ZG(x:Sp)(L:List Sp)(hl:L.length<=8796093022208):Pure Tryz.prog aq 346 [.sl .ro (L.map Qe),.agg (Qe x)] (I (jM (xy x) L 0)):=by
 obtain⟨T,hT⟩:∃T,jM (xy x) L 0=T:=⟨_,rfl⟩;rw[hT];refine Qn aeM (fun _ _ _=>.junk) (by simp) ?_;simp[ajR,Qe];refine Qi Cg (atr 8 L.length ⟨[[I x.1,I x.2]],[],fun _=>.gone,0⟩ fun i=>jM (xy x) (L.drop i) i=T) (fun f _=>L.length-(numOf (f 8)).toNat) ?_ ?_
 ·exact⟨0,by simp,by omega,by simpa using hT,rfl⟩
 rintro f m ⟨i,h8,hi,hx,rfl⟩;rcases zzaa i L.length with ai|bw
 ·obtain⟨a,ha⟩:=aP ai;have aa:Qh (L.map Qe) i=Qe a:=Zd ha;have aze:Qh (L.map fun x=>[I x.1,I x.2]) i=Qe a:=aa;have ah:(i:Int)<(L.length:Int):=by omega
  have hw:=bH i (by omega);rw[Xy ha,jM]at hx;cases hb:xy x a with
  |false=>
   rw[hb]at hx;simp at hx;simp only[xy]at hb;simp[h8,ah,aa,Cg,NQ,hw,Qe,hb];refine⟨aN,⟨i+1,by simp,by omega,hx,rfl⟩,by omega⟩
  |true=>
   rw[hb]at hx;simp at hx;simp only[xy]at hb;subst hx;simp[h8,ah,aa,Cg,NQ,Qe,hb]
 have bJ:¬(i:Int)<(L.length:Int):=by omega
 rw[zzan bw,jM]at hx;simp[h8,bJ,Cg,NQ,hx]
def Gm(x:Sp)(L:List Sp)(hl:L.length<=8796093022208):Pure Tryz.prog aq 317 [.sl .ro (L.map Qe),.agg (Qe x)] (.bool (decide (x∈L))):=by
 have k:=ZG x L hl;have anI:=xx (xy x) L 0;refine Qn aeF (fun _ _ _=>I (jM (xy x) L 0)) (by simp) ?_
 have:decide (0<=jM (xy x) L 0)=decide (x∈L):=by
  rw[<- ZF,zzbh,decide_eq_true_eq];exact anI
 simp[ajF,ajG,this,Qe];simpa[Qe]using k
def anK(p:Pl)(id:Int):∃r,Xh [id] (mK p.bks) 0=r/\((∃n x,Gk id p.bks=some x/\r=some (n,.agg (Xa x)))\/(Gk id p.bks=none/\r=none)):=by
 obtain⟨g1,g2⟩:=atq id p.bks 0;cases hf:Gk id p.bks with
 |none=>exact⟨_,rfl,.inr ⟨rfl,g1 hf⟩⟩
 |some x=>
  obtain⟨n,g⟩:=g2 x hf;exact⟨_,rfl,.inl ⟨n,x,rfl,g⟩⟩
def RA(p:Pl)(e:En):Bool:=if e.bo=0 then true else match Gk e.bo p.bks with
 |none=>false
 |some x=>if x.re=0 then decide (x.it=e.it)else decide ((x.re,x.it)∈e.al)
def RB(p:Pl)(e:En)(hl:e.al.length<=8796093022208)(kI:List (List Int×AV))(bx:List (List AV))(Y:YT)(K:AV->AM->Prop)(hK:∀b,RA p e=b->K (.bool b) (bU p kI (mK p.bks) bx)):
  an Tryz.prog aq Y 271 [.ptr 3 0,.agg (Qd e)] (bU p kI (mK p.bks) bx) K:=by
 obtain⟨r,hr,Rz⟩:=anK p e.bo;by_cases h0:e.bo=0
 ·refine Kr (Xe Cd (fun _ _ _=>.junk) (by simp) ?_);simp[NJ,NK,bU,Qc,Qd,h0];exact pI _ rfl (Idle.bool _) (hK _ (by simp[RA,h0]))
 obtain⟨n,x,hf,rfl⟩|⟨hf,rfl⟩:=Rz
 ·have k:=Gm (x.re,x.it) e.al hl;refine Kr (Xe Cd (fun _ _ _=>.bool (decide ((x.re,x.it)∈e.al))) (by simp) ?_);simp[NJ,NK,bU,Qc,Qd,h0];refine Xz ?_;by_cases c1:x.re=0
  ·simp[hr,Xa,c1];exact pI _ rfl (Idle.bool _) (hK _ (by simp only[RA,h0,hf,c1];rw[zzbh];simp))
  simp[hr,Xa,c1];refine⟨by simpa[Qe]using k,pI _ rfl (Idle.bool _) (hK _ (by simp[RA,h0,hf,c1]))⟩
 refine Kr (Xe Cd (fun _ _ _=>.junk) (by simp) ?_);simp[NJ,NK,bU,Qc,Qd,h0];refine Xz ?_;simp[hr];exact pI _ rfl (Idle.bool _) (hK _ (by simp[RA,h0,hf]))
def zF(p:Pl)(seen:List Int)(e:En):Bool:=wi e.id 1 1000000&&(!decide (e.id∈seen)&&(jK p e&&(mG p e&&RA p e)))
def Gn(p:Pl):List Int->List En->Bool
 |_,[]=>true
 |seen,e::r=>zF p seen e&&Gn p (seen++[e.id]) r
def xz(p:Pl):Bool:=decide (p.ens.length<=4000)&&Gn p [] p.ens
def mS(l:List Int):List (List Int×AV):=l.map fun n=>([n],.bool true)
def att(k:Int):∀(l:List Int)(i:Nat),(k∈l->∃n,Xh [k] (mS l) i=some (n,.bool true))/\(¬k∈l->Xh [k] (mS l) i=none)
 |[],i=>⟨fun h=>(by cases h),fun _=>rfl⟩
 |x::r,i=>by
  have ih:=att k r (i+1);simp only[mS,zzay,Xh]at ih |-
  by_cases h:x=k
  ·subst h;simp
  have h':¬k=x:=fun e=>h e.symm;rw[if_neg (by intro e;cases e;exact h rfl)];simp only[zzau,h',false_or];exact ih
def Ow:Nat->FuncId->List AV->AV:=fun _ f l=>if f=265 then(match l with|[.int _ n,.int _ lo,.int _ up]=>.bool (wi n lo up)|_=>.junk)else .gd false .junk
def anL(p:Pl)(f:Nat->AV)(m:AM):Prop:=∃(i:Nat)(bx:List (List AV)),f 20=I i/\i<=p.ens.length/\Gn p ((p.ens.take i).map fun e=>e.id) (p.ens.drop i)=Gn p [] p.ens/\f 3=.mp 4/\m=bU p (mI p.aL) (mK p.bks) ([.aK 0 (mS ((p.ens.take i).map fun e=>e.id))]::bx)
def Qcv{p:Pl}{i:Nat}{e:En}(h:p.ens[i]?=some e):Qh (p.ens.map Qd) i=Qd e:=Qr (by simp[h])
def RC(p:Pl)(hl:p.ens.length<=1000000000)(ei:∀e∈p.ens,e.al.length<=8796093022208)(ZC:xu p.aL=true)(Ou:1<=p.rg/\p.rg<=8)(dx:1<=p.ln/\p.ln<=100000000)(Y:YT)(K:AV->AM->Prop)(hK:∀b,xz p=b->K (.bool b) (bU p (mI p.aL) (mK p.bks) [])):
  an Tryz.prog aq Y 195 [.ptr 3 0] (bU p (mI p.aL) (mK p.bks) []) K:=by
 refine Kr (Xe adx Ow (by simp) ?_);by_cases h0:p.ens.length<=4000
 ·have za:¬(4000:Int)<(p.ens.length:Int):=by omega
  simp[Nt,bU,Qc,za];refine Qi vf (anL p) (fun f _=>p.ens.length-(numOf (f 20)).toNat) ?_ ?_
  ·exact⟨0,[],by simp,by omega,by simp,by simp,by simp[bU,Qc,mS]⟩
  rintro f m ⟨i,bx,h20,hi,ha,h3,rfl⟩;rcases zzaa i p.ens.length with ai|bw
  ·obtain⟨e,he⟩:=aP ai;have aa:=Qcv he;have ah:(i:Int)<(p.ens.length:Int):=by omega
   have hw:=bH i (by omega);have bA:(p.ens.take (i+1)).map (fun e=>e.id)=(p.ens.take i).map (fun e=>e.id)++[e.id]:=by simp[zzar,he]
   rw[Xy he,Gn,<- bA]at ha;obtain⟨S,hS⟩:∃S,(p.ens.take i).map (fun e=>e.id)=S:=⟨_,rfl⟩;rw[hS]at ha bA |-
   have h1:=Yx e.id 1 1000000;have hae:=ei e (zzac he);obtain⟨s1,s2⟩:=att e.id S 0;have bad:zF p S e=false->xz p=false:=fun h=>by rw[h]at ha;simp[xz,<- ha]
   cases e1:wi e.id 1 1000000 with
   |false=>
    rw[e1]at h1;simp[h20,ah,aa,Qd,bU,Qc,Ow,e1,vf,rX];exact⟨h1,pI _ rfl (Idle.bool _) (hK _ (bad (by simp[zF,e1])))⟩
   |true=>
    rw[e1]at h1;by_cases e2:e.id∈S
    ·obtain⟨n,s1⟩:=s1 e2;simp[h20,ah,aa,Qd,bU,Qc,Ow,e1,s1,vf,rX];exact⟨h1,pI _ rfl (Idle.bool _) (hK _ (bad (by simp[zF,e1,e2])))⟩
    have s2:=s2 e2;simp[h20,ah,aa,Qd,bU,Qc,Ow,e1,s2,vf];refine⟨h1,anH p e (mK p.bks) ([.aK 0 (mS S)]::(bx++[Qd e])) ZC dx Y _ fun b hb=>?_⟩;cases b with
    |false=>
     simp[rX];exact pI _ rfl (Idle.bool _) (hK _ (bad (by simp[zF,e1,e2,hb])))
    |true=>
     simp[bU,Qc,Qd];refine anJ p e hae Ou (mK p.bks) ([.aK 0 (mS S)]::(bx++[Qd e])) Y _ fun b og=>?_;cases b with
     |false=>
      simp[rX];exact pI _ rfl (Idle.bool _) (hK _ (bad (by simp[zF,e1,e2,hb,og])))
     |true=>
      simp[bU,Qc,Qd];refine RB p e hae (mI p.aL) ([.aK 0 (mS S)]::(bx++[Qd e])) Y _ fun b hb3=>?_;cases b with
      |false=>
       simp[rX];exact pI _ rfl (Idle.bool _) (hK _ (bad (by simp[zF,e1,e2,hb,og,hb3])))
      |true=>
       have bT:zF p S e=true:=by simp[zF,e1,e2,hb,og,hb3]
       rw[bT,zzdz]at ha;simp[bU,Qc,Qd,s2,hw];refine⟨aN,⟨i+1,bx++[Qd e],by simp,by omega,ha,by simp,?_⟩,by omega⟩
       ·rw[bA];simp[bU,Qc,Qd,mS]
  have bJ:¬(i:Int)<(p.ens.length:Int):=by omega
  rw[zzan bw]at ha;have ha:Gn p [] p.ens=true:=by rw[<- ha];rfl
  simp[h20,bJ,vf,rX,bU,Qc];exact pI _ rfl (Idle.bool _) (hK _ (by simp[xz,h0,ha]))
 have za:(4000:Int)<(p.ens.length:Int):=by omega
 simp[Nt,rX,bU,Qc,za];exact pI [] (by simp) (Idle.bool _) (hK _ (by simp[xz,h0]))
open Go Go.Abs
def qp(p:Pl):Bool:=Uv p&&(Tp p&&(jJ p&&(xz p&&Qdd p)))
def ZH(p:Pl):Nat->FuncId->List AV->AV:=fun _ f _=>if f=192 then .bool (Uv p)else if f=196 then .bool (Qdd p)else .gd false .junk
def PlS(p:Pl):Prop:=p.sh.length<=1000000000/\p.aL.length<=1000000000/\p.ens.length<=1000000000/\p.bks.length<=8796093022208/\p.cls.length<=1000000000/\∀e∈p.ens,e.al.length<=8796093022208
def Wq(p:Pl)(h:PlS p):Pure Tryz.prog aq 120 [.agg (Qc p)] (.bool (qp p)):=by
 obtain⟨l1,l2,l3,l4,l5,l6⟩:=h;have k44:=afD p l1;have k48:=Rw p l5;refine Qn acG (ZH p) (by simp) ?_;cases e1:Uv p with
 |false=>
  rw[e1]at k44;simp[T2,zW,Qc,ZH,qp,e1];simpa[Qc]using k44
 |true=>
  rw[e1]at k44
  have hs:(1<=p.rg/\p.rg<=8)/\(1<=p.ln/\p.ln<=100000000):=by
   simp[Uv,wi]at e1;omega
  simp[T2,Qc,ZH,qp,e1];refine⟨by simpa[Qc]using k44,?_⟩;refine afJ p l2 Y0 _ (fun e2=>?_) (fun e2 kI=>?_)
  ·simp[bU,Qc,e2];refine afK p l4 hs.1 Y0 _ (fun e3=>?_) (fun e3 kB=>?_)
   ·simp[bU,Qc,e3]
    have ZC:xu p.aL=true:=by
     simp[Tp]at e2;exact e2.2.2.1
    refine RC p l3 l6 ZC hs.1 hs.2 Y0 _ fun b e4=>?_;cases b with
    |false=>simp[zW,bU,Qc,e4]
    |true=>
     simp[zW,bU,Qc,e4];simpa[Qc]using k48
   simp[zW,bU,Qc,e3]
  simp[zW,bU,Qc,e2]
end Go.Proofs.YtnopaopphmjnmaaGreatDoor
