import Derived.Test.YthjppoincojfkaaGreatDoorRSSpG
set_option linter.all false
set_option maxRecDepth 100000
set_option maxHeartbeats 64000000
namespace Go.Proofs.YthjppoincojfkaaGreatDoor
open Go Go.Abs
def Yw(n lo up:Int):Pure Tryz.prog aD 204 [I n,I lo,I up] (.bool (wi n lo up)):=by
 refine Qp adb (fun _ _ _=>.junk) zd ?_;by_cases h1:lo<=n<;>by_cases h2:n<=up<;>simp[ahF,ahG,wi,h1,h2]
def aiB(e:It):Pure Tryz.prog aD 37 [.agg (Qm e)] (I e.id):=by
 refine Qp S7 (fun _ _ _=>.junk) zd ?_;simp[ajT,Qm,ajU]
def xH(e:Bk):Pure Tryz.prog aD 207 [.agg (Xi e)] (I e.id):=by
 refine Qp adg (fun _ _ _=>.junk) zd ?_;simp[ahH,Xi,ahI]
def xI(e:Sp):Pure Tryz.prog aD 239 [.agg (Qe e)] (I e.1):=by
 refine Qp adv (fun _ _ _=>.junk) zd ?_;simp[ahU,Qe,ahV]
def SL(k:Int):Option Int->Bool
 |some q=>decide (k<=q)
 |none=>false
def Kw(lo up:Int):Option Int->Pi->Bool
 |_,[]=>true
 |pr,k::r=>if k<lo\/up<k\/SL k pr=true then false else Kw lo up (some k) r
def IF(ks:Pi):Nat->Option Int
 |0=>none
 |i+1=>ks[i]?
def Qec{ks:Pi}{i:Nat}{k:Int}(h:ks[i]?=some k):IF ks (i+1)=some k:=h
def keyOf:P2->Int
 |[.agg (.int _ n::_)]=>n
 |_=>0
def iF:UV:=fun _ _ l=>I (keyOf l)
def rq{lo up:Int}{ks:Pi}{i:Nat}{k:Int}(h:ks[i]?=some k):Kw lo up (IF ks i) (ks.drop i)=if k<lo\/up<k\/SL k (IF ks i)=true then false else Kw lo up (IF ks (i+1)) (ks.drop (i+1)):=by
 obtain⟨hi,hk⟩:=zza.1 h;rw[zzag hi,hk,Kw,Qec h]
def NZ(s n:Nat)(R:Nat->Prop)(f:Nat->AV)(m:AM):Prop:=∃(i:Nat)(bx:T5),f s=I i/\i<=n/\R i/\m=⟨bx,[],fun _=>.gone,0⟩
def QM(L:List It)(lo up:Int)(hl:L.length<=8796093022208):Pure Tryz.prog aD 205 [.sl .ro (L.map Qm),I lo,I up,.fn 37 [] []] (.bool (Kw lo up none (L.map fun x=>x.id))):=by
 obtain⟨T,hT⟩:∃T,Kw lo up none (L.map fun x=>x.id)=T:=⟨_,rfl⟩;rw[hT];refine Qp ade iF zd ?_;simp[UH];refine Qi mO (NZ 14 L.length fun i=>Kw lo up (IF (L.map fun x=>x.id) i) ((L.map fun x=>x.id).drop i)=T) (fun f _=>L.length-(numOf (f 14)).toNat) ?_ ?_
 ·exact⟨0,_,zd,zE,by simpa[IF]using hT,rfl⟩
 rintro f m ⟨i,bx,tY,hi,ha,rfl⟩;rcases zzaa i L.length with ah|bq
 ·obtain⟨x,hx⟩:=aV ah;have ai:Qh (L.map Qm) i=Qm x:=Qu (by simp[hx]);have aa:(i:Int)<(L.length:Int):=zE
  have hw:=bO i zE;have hk:=aiB x;have X3:(L.map fun x=>x.id)[i]?=some x.id:=by simp[hx]
  rw[rq X3]at ha;by_cases c1:x.id<lo
  ·rw[if_pos (.inl c1)]at ha;subst ha;simp[tY,ah,aa,ai,Qm,iF,keyOf,c1,mO,vI];simpa[Qm]using hk
  by_cases c2:up<x.id
  ·rw[if_pos (.inr (.inl c2))]at ha;subst ha;simp[tY,ah,aa,ai,Qm,iF,keyOf,c1,c2,mO,vI];simpa[Qm]using hk
  cases i with
  |zero=>
   rw[if_neg (by simp[c1,c2,IF,SL])]at ha;have gU:IntKind.i64.wrap 1=1:=by decide
   simp[tY,ah,aa,ai,Qm,iF,keyOf,c1,c2,mO,vI,hw,gU];refine⟨by simpa[Qm]using hk,aQ,⟨1,_,zd,zE,ha,rfl⟩,zE⟩
  |succ j=>
   have dH:j<L.length:=zE
   have sQ:(j:Int)<(L.length:Int):=zE
   obtain⟨y,hy⟩:=aV dH;have sR:Qh (L.map Qm) j=Qm y:=Qu (by simp[hy]);have hky:=aiB y;have sS:IF (L.map fun x=>x.id) (j+1)=some y.id:=Qec (by simp[hy]);have IG:IntKind.i64.wrap (((j+1:Nat):Int)-1)=(j:Int):=by rw[Ql]<;>omega
   have F8:IntKind.i64.wrap ((j:Int)+1-1)=(j:Int):=by rw[Ql]<;>omega
   have sU:IntKind.i64.wrap (j:Int)=(j:Int):=by rw[Ql]<;>omega
   have dX:(0:Int)<(j:Int)+1:=zE
   have hj0:(0:Int)<=(j:Int):=zE
   have F9:(0:Int)<=(j:Int)+1:=zE
   have N0:¬(j:Int)<0:=zE
   have Ga:(j:Int)+1<(L.length:Int):=zE
   have eL:IntKind.i64.wrap ((j:Int)+1+1)=((j+1+1:Nat):Int):=by rw[Ql]<;>omega
   by_cases c3:x.id<=y.id
   ·rw[if_pos (.inr (.inr (by rw[sS];simp[SL,c3])))]at ha;subst ha;simp[tY,ah,aa,Ga,dX,hj0,F9,N0,IG,F8,sU,dH,sQ,ai,sR,Qm,iF,keyOf,c1,c2,c3,mO,vI];exact⟨by simpa[Qm]using hk,by simpa[Qm]using hky⟩
   rw[if_neg (by rw[sS];simp[c1,c2,c3,SL])]at ha;simp[tY,ah,aa,Ga,dX,hj0,F9,N0,IG,F8,sU,dH,sQ,ai,sR,Qm,iF,keyOf,c1,c2,c3,mO,vI,eL];refine⟨by simpa[Qm]using hk,by simpa[Qm]using hky,aQ,⟨j+1+1,_,zd,zE,ha,rfl⟩,zE⟩
 obtain rfl:i=L.length:=zE
 rw[zzal zd]at ha;have ha:true=T:=by rw[<- ha];simp[Kw]
 subst ha;simp[tY,mO,vI]
def QN(L:List Bk)(lo up:Int)(hl:L.length<=8796093022208):Pure Tryz.prog aD 206 [.sl .ro (L.map Xi),I lo,I up,.fn 207 [] []] (.bool (Kw lo up none (L.map fun x=>x.id))):=by
 obtain⟨T,hT⟩:∃T,Kw lo up none (L.map fun x=>x.id)=T:=⟨_,rfl⟩;rw[hT];refine Qp adf iF zd ?_;simp[UI];refine Qi mP (NZ 14 L.length fun i=>Kw lo up (IF (L.map fun x=>x.id) i) ((L.map fun x=>x.id).drop i)=T) (fun f _=>L.length-(numOf (f 14)).toNat) ?_ ?_
 ·exact⟨0,_,zd,zE,by simpa[IF]using hT,rfl⟩
 rintro f m ⟨i,bx,tY,hi,ha,rfl⟩;rcases zzaa i L.length with ah|bq
 ·obtain⟨x,hx⟩:=aV ah;have ai:Qh (L.map Xi) i=Xi x:=Qu (by simp[hx]);have aa:(i:Int)<(L.length:Int):=zE
  have hw:=bO i zE;have hk:=xH x;have X3:(L.map fun x=>x.id)[i]?=some x.id:=by simp[hx]
  rw[rq X3]at ha;by_cases c1:x.id<lo
  ·rw[if_pos (.inl c1)]at ha;subst ha;simp[tY,ah,aa,ai,Xi,iF,keyOf,c1,mP,vJ];simpa[Xi]using hk
  by_cases c2:up<x.id
  ·rw[if_pos (.inr (.inl c2))]at ha;subst ha;simp[tY,ah,aa,ai,Xi,iF,keyOf,c1,c2,mP,vJ];simpa[Xi]using hk
  cases i with
  |zero=>
   rw[if_neg (by simp[c1,c2,IF,SL])]at ha;have gU:IntKind.i64.wrap 1=1:=by decide
   simp[tY,ah,aa,ai,Xi,iF,keyOf,c1,c2,mP,vJ,hw,gU];refine⟨by simpa[Xi]using hk,aQ,⟨1,_,zd,zE,ha,rfl⟩,zE⟩
  |succ j=>
   have dH:j<L.length:=zE
   have sQ:(j:Int)<(L.length:Int):=zE
   obtain⟨y,hy⟩:=aV dH;have sR:Qh (L.map Xi) j=Xi y:=Qu (by simp[hy]);have hky:=xH y;have sS:IF (L.map fun x=>x.id) (j+1)=some y.id:=Qec (by simp[hy]);have IG:IntKind.i64.wrap (((j+1:Nat):Int)-1)=(j:Int):=by rw[Ql]<;>omega
   have F8:IntKind.i64.wrap ((j:Int)+1-1)=(j:Int):=by rw[Ql]<;>omega
   have sU:IntKind.i64.wrap (j:Int)=(j:Int):=by rw[Ql]<;>omega
   have dX:(0:Int)<(j:Int)+1:=zE
   have hj0:(0:Int)<=(j:Int):=zE
   have F9:(0:Int)<=(j:Int)+1:=zE
   have N0:¬(j:Int)<0:=zE
   have Ga:(j:Int)+1<(L.length:Int):=zE
   have eL:IntKind.i64.wrap ((j:Int)+1+1)=((j+1+1:Nat):Int):=by rw[Ql]<;>omega
   by_cases c3:x.id<=y.id
   ·rw[if_pos (.inr (.inr (by rw[sS];simp[SL,c3])))]at ha;subst ha;simp[tY,ah,aa,Ga,dX,hj0,F9,N0,IG,F8,sU,dH,sQ,ai,sR,Xi,iF,keyOf,c1,c2,c3,mP,vJ];exact⟨by simpa[Xi]using hk,by simpa[Xi]using hky⟩
   rw[if_neg (by rw[sS];simp[c1,c2,c3,SL])]at ha;simp[tY,ah,aa,Ga,dX,hj0,F9,N0,IG,F8,sU,dH,sQ,ai,sR,Xi,iF,keyOf,c1,c2,c3,mP,vJ,eL];refine⟨by simpa[Xi]using hk,by simpa[Xi]using hky,aQ,⟨j+1+1,_,zd,zE,ha,rfl⟩,zE⟩
 obtain rfl:i=L.length:=zE
 rw[zzal zd]at ha;have ha:true=T:=by rw[<- ha];simp[Kw]
 subst ha;simp[tY,mP,vJ]
def QO(L:List Sp)(lo up:Int)(hl:L.length<=8796093022208):Pure Tryz.prog aD 238 [.sl .ro (L.map Qe),I lo,I up,.fn 239 [] []] (.bool (Kw lo up none (L.map fun x=>x.1))):=by
 obtain⟨T,hT⟩:∃T,Kw lo up none (L.map fun x=>x.1)=T:=⟨_,rfl⟩;rw[hT];refine Qp adu iF zd ?_;simp[UQ];refine Qi mQ (NZ 14 L.length fun i=>Kw lo up (IF (L.map fun x=>x.1) i) ((L.map fun x=>x.1).drop i)=T) (fun f _=>L.length-(numOf (f 14)).toNat) ?_ ?_
 ·exact⟨0,_,zd,zE,by simpa[IF]using hT,rfl⟩
 rintro f m ⟨i,bx,tY,hi,ha,rfl⟩;rcases zzaa i L.length with ah|bq
 ·obtain⟨x,hx⟩:=aV ah;have ai:Qh (L.map Qe) i=Qe x:=Qu (by simp[hx]);have aa:(i:Int)<(L.length:Int):=zE
  have hw:=bO i zE;have hk:=xI x;have X3:(L.map fun x=>x.1)[i]?=some x.1:=by simp[hx]
  rw[rq X3]at ha;by_cases c1:x.1<lo
  ·rw[if_pos (.inl c1)]at ha;subst ha;simp[tY,ah,aa,ai,Qe,iF,keyOf,c1,mQ,vL];simpa[Qe]using hk
  by_cases c2:up<x.1
  ·rw[if_pos (.inr (.inl c2))]at ha;subst ha;simp[tY,ah,aa,ai,Qe,iF,keyOf,c1,c2,mQ,vL];simpa[Qe]using hk
  cases i with
  |zero=>
   rw[if_neg (by simp[c1,c2,IF,SL])]at ha;have gU:IntKind.i64.wrap 1=1:=by decide
   simp[tY,ah,aa,ai,Qe,iF,keyOf,c1,c2,mQ,vL,hw,gU];refine⟨by simpa[Qe]using hk,aQ,⟨1,_,zd,zE,ha,rfl⟩,zE⟩
  |succ j=>
   have dH:j<L.length:=zE
   have sQ:(j:Int)<(L.length:Int):=zE
   obtain⟨y,hy⟩:=aV dH;have sR:Qh (L.map Qe) j=Qe y:=Qu (by simp[hy]);have hky:=xI y;have sS:IF (L.map fun x=>x.1) (j+1)=some y.1:=Qec (by simp[hy]);have IG:IntKind.i64.wrap (((j+1:Nat):Int)-1)=(j:Int):=by rw[Ql]<;>omega
   have F8:IntKind.i64.wrap ((j:Int)+1-1)=(j:Int):=by rw[Ql]<;>omega
   have sU:IntKind.i64.wrap (j:Int)=(j:Int):=by rw[Ql]<;>omega
   have dX:(0:Int)<(j:Int)+1:=zE
   have hj0:(0:Int)<=(j:Int):=zE
   have F9:(0:Int)<=(j:Int)+1:=zE
   have N0:¬(j:Int)<0:=zE
   have Ga:(j:Int)+1<(L.length:Int):=zE
   have eL:IntKind.i64.wrap ((j:Int)+1+1)=((j+1+1:Nat):Int):=by rw[Ql]<;>omega
   by_cases c3:x.1<=y.1
   ·rw[if_pos (.inr (.inr (by rw[sS];simp[SL,c3])))]at ha;subst ha;simp[tY,ah,aa,Ga,dX,hj0,F9,N0,IG,F8,sU,dH,sQ,ai,sR,Qe,iF,keyOf,c1,c2,c3,mQ,vL];exact⟨by simpa[Qe]using hk,by simpa[Qe]using hky⟩
   rw[if_neg (by rw[sS];simp[c1,c2,c3,SL])]at ha;simp[tY,ah,aa,Ga,dX,hj0,F9,N0,IG,F8,sU,dH,sQ,ai,sR,Qe,iF,keyOf,c1,c2,c3,mQ,vL,eL];refine⟨by simpa[Qe]using hk,by simpa[Qe]using hky,aQ,⟨j+1+1,_,zd,zE,ha,rfl⟩,zE⟩
 obtain rfl:i=L.length:=zE
 rw[zzal zd]at ha;have ha:true=T:=by rw[<- ha];simp[Kw]
 subst ha;simp[tY,mQ,vL]
def Jn(p:Pl):Bool:=wi p.ch 0 39&&(Ve p.nu p.de&&(Yg p.of p.sh&&(wi p.ep 0 9000000000&&(wi p.rg 1 8&&wi p.ln 1 100000000))))
def xJ(p:Pl):UV:=fun _ f l=>
 if f=132 then .bool (Ve p.nu p.de)else if f=133 then .bool (Yg p.of p.sh)else(match l with|[.int _ n,.int _ lo,.int _ up]=>.bool (wi n lo up)|_=>.junk)
def aej(p:Pl)(fE:p.sh.length<=1000000000):Pure Tryz.prog aD 153 [.ep (Qa p++[.junk,.junk]) 0] (.bool (Jn p)):=by
 have h1:=Yw p.ch 0 39;have h2:=Wv p.nu p.de;have h3:=jy p.of p.sh fE;have h4:=Yw p.ep 0 9000000000;have h5:=Yw p.rg 1 8;have h6:=Yw p.ln 1 100000000;refine Qp acA (xJ p) zd ?_;cases e1:wi p.ch 0 39 with
 |false=>rw[e1]at h1;simp[vz,vA,Qa,xJ,Jn,e1];exact h1
 |true=>
  rw[e1]at h1;cases e2:Ve p.nu p.de with
  |false=>rw[e2]at h2;simp[vz,vA,Qa,xJ,Jn,e1,e2];exact⟨h1,h2⟩
  |true=>
   rw[e2]at h2;cases e3:Yg p.of p.sh with
   |false=>rw[e3]at h3;simp[vz,vA,Qa,xJ,Jn,e1,e2,e3];exact⟨h1,h2,h3⟩
   |true=>
    rw[e3]at h3;cases e4:wi p.ep 0 9000000000 with
    |false=>rw[e4]at h4;simp[vz,vA,Qa,xJ,Jn,e1,e2,e3,e4];exact⟨h1,h2,h3,h4⟩
    |true=>
     rw[e4]at h4;cases e5:wi p.rg 1 8 with
     |false=>rw[e5]at h5;simp[vz,vA,Qa,xJ,Jn,e1,e2,e3,e4,e5];exact⟨h1,h2,h3,h4,h5⟩
     |true=>rw[e5]at h5;simp[vz,vA,Qa,xJ,Jn,e1,e2,e3,e4,e5];exact⟨h1,h2,h3,h4,h5,h6⟩
def aek:List Cl->Bool
 |[]=>true
 |c::r=>Zc c&&aek r
def Qds(p:Pl):Bool:=decide (p.cls.length<=400)&&aek p.cls
def Bh:UV:=fun _ _ l=>match l with
 |[.agg [.int _ a,.int _ b,.int _ c,.int _ d,.int _ e,.int _ f,.int _ g,.int _ h]]=>.bool (Zc ⟨a,b,c,d,e,f,g,h⟩)
 |_=>.junk
def QS(p:Pl)(hc:p.cls.length<=1000000000):Pure Tryz.prog aD 157 [.ep (Qa p++[.junk,.junk]) 0] (.bool (Qds p)):=by
 refine Qp acE Bh zd ?_;by_cases h0:p.cls.length<=400
 ·have zD:¬(400:Int)<(p.cls.length:Int):=zE
  obtain⟨T,hT⟩:∃T,Qds p=T:=⟨_,rfl⟩;rw[hT];simp[T2,Qa,h0,zD];refine Qi Cd (NZ 18 p.cls.length fun i=>aek (p.cls.drop i)=T) (fun f _=>p.cls.length-(numOf (f 18)).toNat) ?_ ?_
  ·exact⟨0,_,zd,zE,by rw[<- hT];simp[Qds,h0],rfl⟩
  rintro f m ⟨i,bx,h18,hi,ha,rfl⟩;rcases zzaa i p.cls.length with ah|bq
  ·obtain⟨x,hx⟩:=aV ah;have ai:Qh (p.cls.map Qg) i=Qg x:=Qu (by simp[hx]);have aa:(i:Int)<(p.cls.length:Int):=zE
   have hw:=bO i zE;have hk:=We x;rw[Za hx,aek]at ha;cases hv:Zc x with
   |false=>
    rw[hv]at ha hk;simp at ha;simp[h18,ah,aa,ai,Qg,Bh,hv,Cd,EB,ha];simpa[Qg]using hk
   |true=>
    rw[hv]at ha hk;simp at ha;simp[h18,ah,aa,ai,Qg,Bh,hv,Cd,EB,hw];refine⟨by simpa[Qg]using hk,aQ,⟨i+1,_,zd,zE,ha,rfl⟩,zE⟩
  obtain rfl:i=p.cls.length:=zE
  rw[zzbt]at ha;have ha:true=T:=ha;subst ha;simp[h18,Cd,EB]
 have zD:(400:Int)<(p.cls.length:Int):=zE
 simp[T2,EB,Qa,Qds,h0,zD]
open Go Go.Abs
def mI(l:List It):List (Pi×AV):=l.map fun x=>([x.id],.agg (Qm x))
def mK(l:List Bk):List (Pi×AV):=l.map fun x=>([x.id],.agg (Xi x))
def Gb(id:Int):List Bk->Option Bk
 |[]=>none
 |x::r=>if x.id=id then some x else Gb id r
def xK{k:Pi}:∀{kvs:List (Pi×AV)}{i:Nat},(∀p∈kvs,p.1≠k)->Xh k kvs i=none
 |[],_,_=>rfl
 |(k',a)::r,i,h=>by
  rw[Xh,if_neg (fun e=>h (k',a) zd e.symm)];exact xK fun p hp=>h p (by simp[hp])
def alJ(id:Int):∀(l:List It)(i:Nat),(Xj id l=none->Xh [id] (mI l) i=none)/\∀x,Xj id l=some x->∃n,Xh [id] (mI l) i=some (n,.agg (Qm x))
 |[],i=>⟨fun _=>rfl,fun x h=>by cases h⟩
 |y::r,i=>by
  have ih:=alJ id r (i+1);simp only[mI,zzas,Xh,Xj]at ih |-
  by_cases h:y.id=id
  ·rw[if_pos h,if_pos (by rw[h])];exact⟨fun h=>(by cases h),fun x h=>(by cases h;exact⟨i,rfl⟩)⟩
  rw[if_neg h,if_neg (by intro e;cases e;exact h rfl)];exact ih
def ar0(id:Int):∀(l:List Bk)(i:Nat),(Gb id l=none->Xh [id] (mK l) i=none)/\∀x,Gb id l=some x->∃n,Xh [id] (mK l) i=some (n,.agg (Xi x))
 |[],i=>⟨fun _=>rfl,fun x h=>by cases h⟩
 |y::r,i=>by
  have ih:=ar0 id r (i+1);simp only[mK,zzas,Xh,Gb]at ih |-
  by_cases h:y.id=id
  ·rw[if_pos h,if_pos (by rw[h])];exact⟨fun h=>(by cases h),fun x h=>(by cases h;exact⟨i,rfl⟩)⟩
  rw[if_neg h,if_neg (by intro e;cases e;exact h rfl)];exact ih
def kT{lo up:Int}:∀{ks:Pi}{pr:Option Int},Kw lo up pr ks=true->ks.Pairwise (·<·)/\∀k∈ks,lo<=k/\k<=up/\∀q,pr=some q->q<k
 |[],pr,_=>⟨List.Pairwise.nil,fun k hk=>by cases hk⟩
 |k::r,pr,h=>by
  rw[Kw]at h;split at h
  ·cases h
  rename_i hn;simp only[not_or]at hn;obtain⟨h1,h2⟩:=kT h
  have hk:∀q,pr=some q->q<k:=fun q hq=>by
   have:=hn.2.2;subst hq;simp[SL]at this;omega
  refine⟨zzcd.2 ⟨fun a ha=>(h2 a ha).2.2 k rfl,h1⟩,fun a ha=>?_⟩;rcases zzam.1 ha with rfl|ha
  ·exact⟨zE,zE,hk⟩
  obtain⟨g1,g2,g3⟩:=h2 a ha;refine⟨g1,g2,fun q hq=>?_⟩;have:=hk q hq;have:=g3 k rfl;omega
def xL{α:Type}{key:α->Int}{row:α->AV}{l:List α}{i:Nat}{x:α}(h:(l.map key).Pairwise (·<·))(hx:l[i]?=some x):Xh [key x] ((l.take i).map fun x=>([key x],row x)) 0=none:=by
 refine xK fun p hp=>?_;obtain⟨y,hy,rfl⟩:=zzav.1 hp;obtain⟨j,hj,oq⟩:=zzft hy;rw[zzaq]at hj;rw[List.getElem_take]at oq;obtain⟨hi,hx⟩:=zza.1 hx
 have ah:key l[j]<key l[i]:=by
  have:=zzds.1 h j i (by simp;omega) (Nm hi) zE;simpa using this
 intro e;rw[<- oq,<- hx]at e;simp only[List.cons.injEq,and_true]at e;omega
def SM(x:It):Bool:=wi x.ki 1 5&&(wi x.fr 1 100000000&&(wi x.sp 0 200&&wi x.ra 0 3))
def xM:List It->Bool
 |[]=>true
 |x::r=>SM x&&xM r
def gT(p:Pl):Bool:=match Xj p.fi p.aN with
 |some x=>decide (x.ki=5)
 |none=>false
def SN(p:Pl):Bool:=decide (p.aN.length<=4000)&&(Kw 1 1000000 none (p.aN.map fun x=>x.id)&&(xM p.aN&&gT p))
def bW(p:Pl)(kI kB:List (Pi×AV))(bx:T5):AM:=⟨Qa p::[.aJ 0 kI]::[.aJ 0 kB]::(Qa p++[.mp 1,.mp 2])::bx,[],fun _=>.gone,0⟩
def ael(x:It):Idle (.agg (Qm x)):=Idle.agg fun c hc=>by
 simp only[Qm,zzam,zzdp,or_false]at hc;rcases hc with rfl|rfl|rfl|rfl|rfl<;>exact Idle.int _ _
def aem(x:Bk):Idle (.agg (Xi x)):=Idle.agg fun c hc=>by
 simp only[Xi,zzam,zzdp,or_false]at hc;rcases hc with rfl|rfl|rfl|rfl|rfl|rfl|rfl<;>exact Idle.int _ _
def BkK(p:Pl)(K:So)(r:AV)(m:AM):Prop:=∃kI kB bx,m=bW p kI kB bx/\(∀e∈kI,Idle e.2)/\(∀e∈kB,Idle e.2)/\Idle r/\K r (bW p kI kB [])
def Bi{p:Pl}{K:So}{r:AV}{m:AM}(kI kB:List (Pi×AV))(bx:T5)(hm:m=bW p kI kB bx)(h1:∀e∈kI,Idle e.2)(h2:∀e∈kB,Idle e.2)(h3:Idle r)(h4:K r (bW p kI kB [])):BkK p K r m:=⟨kI,kB,bx,hm,h1,h2,h3,h4⟩
def sV{f:FuncId}{xs:P2}{p:Pl}{Y:YT}{k0 b0:List (Pi×AV)}{K:So}
  (h:aB Tryz.prog aD Y f xs (bW p k0 b0 []) (BkK p K)):aB Tryz.prog aD Y f xs (bW p k0 b0 []) K:=by
 refine aB.forget (aB.mono h ?_);rintro r m' ⟨kI,kB,bx,rfl,h1,h2,h3,h4⟩;refine⟨bW p kI kB [],bx,rfl,rfl,rfl,fun id cells hc=>?_,h3,h4⟩
 match id,hc with
 |0,hc=>exact .inl hc
 |1,hc=>cases hc;exact .inr (.inr ⟨0,kI,rfl,h1⟩)
 |2,hc=>cases hc;exact .inr (.inr ⟨0,kB,rfl,h2⟩)
 |3,hc=>exact .inl hc
 |n+4,hc=>cases hc
def pG(p:Pl):UV:=fun _ f l=>
 if f=205 then .bool (Kw 1 1000000 none (p.aN.map fun x=>x.id))else(match l with|[.int _ n,.int _ lo,.int _ up]=>.bool (wi n lo up)|_=>.junk)
def Vy(l:List It):∀e∈mI l,Idle e.2:=fun e he=>by
 obtain⟨x,_,rfl⟩:=zzav.1 he;exact ael x
def Qbb(l:List Bk):∀e∈mK l,Idle e.2:=fun e he=>by
 obtain⟨x,_,rfl⟩:=zzav.1 he;exact aem x
def aen{l:List It}{i:Nat}{x:It}(h:l[i]?=some x):mI (l.take (i+1))=mI (l.take i)++[([x.id],.agg (Qm x))]:=by
 simp[mI,zzb,h]
def aeo{l:List Bk}{i:Nat}{x:Bk}(h:l[i]?=some x):mK (l.take (i+1))=mK (l.take i)++[([x.id],.agg (Xi x))]:=by
 simp[mK,zzb,h]
def Uy{P:Pi×AV->Prop}:∀e∈([]:List (Pi×AV)),P e:=fun e h=>by cases h
def aiC(s n:Nat)(p:Pl)(kI kB:Nat->List (Pi×AV))(R:Nat->Prop)(f:Nat->AV)(m:AM):Prop:=∃(i:Nat)(bx:T5),f s=I i/\i<=n/\R i/\m=bW p (kI i) (kB i) bx
def aep(p:Pl)(hl:p.aN.length<=1000000000)(Y:YT)(K:So)(VU:SN p=true->K (.bool true) (bW p (mI p.aN) [] []))(ru:SN p=false->∀kI,K (.bool false) (bW p kI [] [])):
  aB Tryz.prog aD Y 154 [.ptr 3 0] (bW p [] [] []) K:=by
 have k90:=QM p.aN 1 1000000 zE;refine sV ?_;refine Xl acB (pG p) zd ?_;by_cases h0:p.aN.length<=4000
 ·have zD:¬(4000:Int)<(p.aN.length:Int):=zE
  cases ha:Kw 1 1000000 none (p.aN.map fun x=>x.id)with
  |false=>
   rw[ha]at k90;simp[Ez,oB,bW,Qa,h0,zD,pG,ha];exact⟨k90,Bi _ _ _ rfl Uy Uy (Idle.bool _) (ru (by simp[SN,ha]) [])⟩
  |true=>
   rw[ha]at k90;have hp:=(kT ha).1;simp[Ez,bW,Qa,h0,zD,pG,ha];refine⟨k90,?_⟩;refine Qi iT (aiC 27 p.aN.length p (fun i=>mI (p.aN.take i)) (fun _=>[]) fun i=>xM (p.aN.drop i)=xM p.aN) (fun f _=>p.aN.length-(numOf (f 27)).toNat) ?_ ?_
   ·exact⟨0,[],zd,zE,zd,by simp[bW,Qa,mI]⟩
   rintro f m ⟨i,bx,h27,hi,fO,rfl⟩;rcases zzaa i p.aN.length with ah|bq
   ·obtain⟨x,hx⟩:=aV ah;have ai:Qh (p.aN.map Qm) i=Qm x:=Qu (by simp[hx]);have aa:(i:Int)<(p.aN.length:Int):=zE
    have hw:=bO i zE;have hkf:Xh [x.id] (mI (p.aN.take i)) 0=none:=xL (key:=fun x=>x.id) (row:=fun x=>.agg (Qm x)) hp hx;have bB:=aen hx;rw[Za hx,xM]at fO;have h1:=Yw x.ki 1 5;have h2:=Yw x.fr 1 100000000;have h3:=Yw x.sp 0 200;have h4:=Yw x.ra 0 3;have bad:SM x=false->SN p=false:=fun h=>by rw[h]at fO;simp[SN,<- fO]
    cases e1:wi x.ki 1 5 with
    |false=>
     rw[e1]at h1;simp[h27,ah,aa,ai,Qm,bW,Qa,pG,e1,iT,oB];exact⟨h1,Bi _ _ _ rfl (Vy _) Uy (Idle.bool _) (ru (bad (by simp[SM,e1])) _)⟩
    |true=>
     rw[e1]at h1;cases e2:wi x.fr 1 100000000 with
     |false=>
      rw[e2]at h2;simp[h27,ah,aa,ai,Qm,bW,Qa,pG,e1,e2,iT,oB];exact⟨h1,h2,Bi _ _ _ rfl (Vy _) Uy (Idle.bool _) (ru (bad (by simp[SM,e1,e2])) _)⟩
     |true=>
      rw[e2]at h2;cases e3:wi x.sp 0 200 with
      |false=>
       rw[e3]at h3;simp[h27,ah,aa,ai,Qm,bW,Qa,pG,e1,e2,e3,iT,oB];exact⟨h1,h2,h3,Bi _ _ _ rfl (Vy _) Uy (Idle.bool _) (ru (bad (by simp[SM,e1,e2,e3])) _)⟩
      |true=>
       rw[e3]at h3;cases e4:wi x.ra 0 3 with
       |false=>
        rw[e4]at h4;simp[h27,ah,aa,ai,Qm,bW,Qa,pG,e1,e2,e3,e4,iT,oB];exact⟨h1,h2,h3,h4,Bi _ _ _ rfl (Vy _) Uy (Idle.bool _) (ru (bad (by simp[SM,e1,e2,e3,e4])) _)⟩
       |true=>
        rw[e4]at h4;have bV:SM x=true:=by simp[SM,e1,e2,e3,e4]
        rw[bV,zzdo]at fO;simp[h27,ah,aa,ai,Qm,bW,Qa,pG,e1,e2,e3,e4,iT,hw,hkf];refine⟨h1,h2,h3,h4,aQ,⟨i+1,bx++[Qm x],zd,zE,fO,?_⟩,zE⟩
        ·simp only[bB];simp[Qm,bW,Qa]
   have bQ:¬(i:Int)<(p.aN.length:Int):=zE
   rw[zzal bq]at fO;have lZ:p.aN.take i=p.aN:=zzau bq;simp only[lZ];have fO:xM p.aN=true:=by rw[<- fO];rfl
   obtain⟨g1,g2⟩:=alJ p.fi p.aN 0;cases hf:Xj p.fi p.aN with
   |none=>
    have g:=g1 hf;simp[h27,bQ,iT,oB,bW,Qa,g];exact Bi _ _ _ rfl (Vy _) Uy (Idle.bool _) (ru (by simp[SN,gT,hf]) _)
   |some x=>
    obtain⟨n,g⟩:=g2 x hf;simp[h27,bQ,iT,oB,bW,Qa,g,Qm];by_cases h5:x.ki=5
    ·simp only[h5];exact Bi _ _ _ rfl (Vy _) Uy (Idle.bool _) (VU (by simp[SN,gT,hf,h0,ha,fO,h5]))
    have h5':(x.ki==5)=false:=by simpa using h5
    rw[h5'];exact Bi _ _ _ rfl (Vy _) Uy (Idle.bool _) (ru (by simp[SN,gT,hf,h5]) _)
 have zD:(4000:Int)<(p.aN.length:Int):=zE
 simp[Ez,oB,bW,Qa,h0,zD,pG];exact Bi _ _ _ rfl Uy Uy (Idle.bool _) (ru (by simp[SN,h0]) [])
open Go Go.Abs
def Df(x:Bk):Bool:=decide (0<=x.fr)&&(decide (x.fr<x.to)&&(decide (x.to<=x.un)&&decide (x.un<=100000000)))
def kindOf(p:Pl)(id:Int):Int:=match Xj id p.aN with
 |some y=>y.ki
 |none=>0
def X4(p:Pl)(x:Bk):Bool:=decide (kindOf p x.it=2)&&(wi x.re 0 (p.rg-1)&&(Df x&&wi x.pr 0 1000000000))
def QT(p:Pl):List Bk->Bool
 |[]=>true
 |x::r=>X4 p x&&QT p r
def jJ(p:Pl):Bool:=decide (p.bks.length<=2000)&&(Kw 1 1000000 none (p.bks.map fun x=>x.id)&&QT p p.bks)
def Dg(p:Pl)(id:Int):∃r,Xh [id] (mI p.aN) 0=r/\((∃n x,Xj id p.aN=some x/\r=some (n,.agg (Qm x)))\/(Xj id p.aN=none/\r=none)):=by
 obtain⟨g1,g2⟩:=alJ id p.aN 0;cases hf:Xj id p.aN with
 |none=>exact⟨_,rfl,.inr ⟨rfl,g1 hf⟩⟩
 |some x=>
  obtain⟨n,g⟩:=g2 x hf;exact⟨_,rfl,.inl ⟨n,x,rfl,g⟩⟩
def QU(p:Pl):UV:=fun _ f l=>
 if f=206 then .bool (Kw 1 1000000 none (p.bks.map fun x=>x.id))else(match l with|[.int _ n,.int _ lo,.int _ up]=>.bool (wi n lo up)|_=>.junk)
def aeq(p:Pl)(hl:p.bks.length<=8796093022208)(N1:1<=p.rg/\p.rg<=8)(Y:YT)(K:So)(VU:jJ p=true->K (.bool true) (bW p (mI p.aN) (mK p.bks) []))(ru:jJ p=false->∀kB,K (.bool false) (bW p (mI p.aN) kB [])):
  aB Tryz.prog aD Y 155 [.ptr 3 0] (bW p (mI p.aN) [] []) K:=by
 have k90:=QN p.bks 1 1000000 hl;refine sV ?_;refine Xl acC (QU p) zd ?_;by_cases h0:p.bks.length<=2000
 ·have zD:¬(2000:Int)<(p.bks.length:Int):=zE
  cases ha:Kw 1 1000000 none (p.bks.map fun x=>x.id)with
  |false=>
   rw[ha]at k90;simp[EA,fF,bW,Qa,h0,zD,QU,ha];exact⟨k90,Bi _ _ _ rfl (Vy _) Uy (Idle.bool _) (ru (by simp[jJ,ha]) [])⟩
  |true=>
   rw[ha]at k90;have hp:=(kT ha).1;simp[EA,bW,Qa,h0,zD,QU,ha];refine⟨k90,?_⟩;refine Qi eC (aiC 28 p.bks.length p (fun _=>mI p.aN) (fun i=>mK (p.bks.take i)) fun i=>QT p (p.bks.drop i)=QT p p.bks) (fun f _=>p.bks.length-(numOf (f 28)).toNat) ?_ ?_
   ·exact⟨0,[],zd,zE,zd,by simp[bW,Qa,mK]⟩
   rintro f m ⟨i,bx,h28,hi,fO,rfl⟩;rcases zzaa i p.bks.length with ah|bq
   ·obtain⟨x,hx⟩:=aV ah;have ai:Qh (p.bks.map Xi) i=Xi x:=Qu (by simp[hx]);have aa:(i:Int)<(p.bks.length:Int):=zE
    have hw:=bO i zE;have ri:IntKind.i64.wrap (p.rg-1)=p.rg-1:=by rw[Ql]<;>omega
    have hkf:Xh [x.id] (mK (p.bks.take i)) 0=none:=xL (key:=fun x=>x.id) (row:=fun x=>.agg (Xi x)) hp hx;have bB:=aeo hx;rw[Za hx,QT]at fO;have h1:=Yw x.re 0 (p.rg-1);have h2:=Yw x.pr 0 1000000000;have bad:X4 p x=false->jJ p=false:=fun h=>by rw[h]at fO;simp[jJ,<- fO]
    obtain⟨r,hr,QV⟩:=Dg p x.it;by_cases fh:kindOf p x.it=2
    ·obtain⟨n,y,hf,rfl⟩|⟨hf,rfl⟩:=QV
     ·have hy:y.ki=2:=by simpa[kindOf,hf]using fh
      cases e1:wi x.re 0 (p.rg-1)with
      |false=>
       rw[e1]at h1;simp[h28,ah,aa,ai,Xi,bW,Qa,QU,hr,Qm,hy,ri,e1,eC,fF];exact⟨h1,Bi _ _ _ rfl (Vy _) (Qbb _) (Idle.bool _) (ru (bad (by simp[X4,e1])) _)⟩
      |true=>
       rw[e1]at h1;cases e2:Df x with
       |false=>
        have e2':¬(0<=x.fr)\/(0<=x.fr/\¬x.fr<x.to)\/(0<=x.fr/\x.fr<x.to/\¬x.to<=x.un)\/(0<=x.fr/\x.fr<x.to/\x.to<=x.un/\¬x.un<=100000000):=by
         simp[Df]at e2;omega
        obtain c1|⟨c1,c2⟩|⟨c1,c2,c3⟩|⟨c1,c2,c3,c4⟩:=e2'
        ·simp[h28,ah,aa,ai,Xi,bW,Qa,QU,hr,Qm,hy,ri,e1,c1,eC,fF];exact⟨h1,Bi _ _ _ rfl (Vy _) (Qbb _) (Idle.bool _) (ru (bad (by simp[X4,e1,e2])) _)⟩
        ·simp[h28,ah,aa,ai,Xi,bW,Qa,QU,hr,Qm,hy,ri,e1,c1,c2,eC,fF];exact⟨h1,Bi _ _ _ rfl (Vy _) (Qbb _) (Idle.bool _) (ru (bad (by simp[X4,e1,e2])) _)⟩
        ·simp[h28,ah,aa,ai,Xi,bW,Qa,QU,hr,Qm,hy,ri,e1,c1,c2,c3,eC,fF];exact⟨h1,Bi _ _ _ rfl (Vy _) (Qbb _) (Idle.bool _) (ru (bad (by simp[X4,e1,e2])) _)⟩
        simp[h28,ah,aa,ai,Xi,bW,Qa,QU,hr,Qm,hy,ri,e1,c1,c2,c3,c4,eC,fF];exact⟨h1,Bi _ _ _ rfl (Vy _) (Qbb _) (Idle.bool _) (ru (bad (by simp[X4,e1,e2])) _)⟩
       |true=>
        have e2':0<=x.fr/\x.fr<x.to/\x.to<=x.un/\x.un<=100000000:=by
         simp[Df]at e2;omega
        obtain⟨c1,c2,c3,c4⟩:=e2';cases e3:wi x.pr 0 1000000000 with
        |false=>
         rw[e3]at h2;simp[h28,ah,aa,ai,Xi,bW,Qa,QU,hr,Qm,hy,ri,e1,c1,c2,c3,c4,e3,eC,fF];exact⟨h1,h2,Bi _ _ _ rfl (Vy _) (Qbb _) (Idle.bool _) (ru (bad (by simp[X4,e1,e2,e3])) _)⟩
        |true=>
         rw[e3]at h2;have bV:X4 p x=true:=by simp[X4,fh,e1,e2,e3]
         rw[bV,zzdo]at fO;simp[h28,ah,aa,ai,Xi,bW,Qa,QU,hr,Qm,hy,ri,e1,c1,c2,c3,c4,e3,eC,fF,hw,hkf];refine⟨h1,h2,aQ,⟨i+1,bx++[Xi x],zd,zE,fO,?_⟩,zE⟩
         ·simp only[bB];simp[Xi,bW,Qa]
     simp[kindOf,hf]at fh
    have hb:=bad (by simp[X4,fh]);obtain⟨n,y,hf,rfl⟩|⟨hf,rfl⟩:=QV
    ·have hy:¬y.ki=2:=by simpa[kindOf,hf]using fh
     simp[h28,ah,aa,ai,Xi,bW,Qa,QU,hr,Qm,hy,ri,eC,fF];exact Bi _ _ _ rfl (Vy _) (Qbb _) (Idle.bool _) (ru hb _)
    simp[h28,ah,aa,ai,Xi,bW,Qa,QU,hr,Qm,ri,eC,fF];exact Bi _ _ _ rfl (Vy _) (Qbb _) (Idle.bool _) (ru hb _)
   have bQ:¬(i:Int)<(p.bks.length:Int):=zE
   rw[zzal bq]at fO;have lZ:p.bks.take i=p.bks:=zzau bq;simp only[lZ];have fO:QT p p.bks=true:=by rw[<- fO];rfl
   simp[h28,bQ,eC,fF,bW,Qa];exact Bi _ _ _ rfl (Vy _) (Qbb _) (Idle.bool _) (VU (by simp[jJ,h0,ha,fO]))
 have zD:(2000:Int)<(p.bks.length:Int):=zE
 simp[EA,fF,bW,Qa,h0,zD,QU];exact Bi _ _ _ rfl (Vy _) Uy (Idle.bool _) (ru (by simp[jJ,h0]) [])
open Go Go.Abs
def RdK(m:AM)(K:So)(r:AV)(m':AM):Prop:=∃ex,m'={m with boxes:=m.boxes++ex}/\Idle r/\K r m
def pH{m:AM}{K:So}{r:AV}{m':AM}(ex:T5)(hm:m'={m with boxes:=m.boxes++ex})(hi:Idle r)(hK:K r m):RdK m K r m':=⟨ex,hm,hi,hK⟩
def Wi{f:FuncId}{xs:P2}{m:AM}{Y:YT}{K:So}(h:aB Tryz.prog aD Y f xs m (RdK m K)):aB Tryz.prog aD Y f xs m K:=by
 refine aB.mono (aB.read (K:=fun r=>K r m) (aB.mono h fun r m' h=>h)) ?_;rintro r m' ⟨rfl,h⟩;exact h
def pI:∀{l:List It},xM l=true->∀x∈l,SM x=true
 |y::r,h,x,hx=>by
  rw[xM,zzac]at h;rcases zzam.1 hx with rfl|hx
  ·exact h.1
  exact pI h.2 x hx
def X5{x:It}(h:SM x=true):(1<=x.ki/\x.ki<=5)/\(1<=x.fr/\x.fr<=100000000)/\(0<=x.sp/\x.sp<=200)/\(0<=x.ra/\x.ra<=3):=by
 simp only[SM,wi,zzac,decide_eq_true_eq]at h;exact h
def jK(p:Pl)(e:En):Bool:=match Xj e.it p.aN with
 |none=>false
 |some y=>if y.ki=5 then false else if wi e.fr 1 y.fr=false then false else if y.ki≠4/\e.fr≠y.fr then false else decide (0<=e.ea)&&(decide (e.ea<=e.la)&&decide (e.la<=p.ln-e.fr))
def jL:UV:=fun _ f l=>match l with|[.int _ n,.int _ lo,.int _ up]=>.bool (wi n lo up)|_=>.junk
def alK(p:Pl)(e:En)(kB:List (Pi×AV))(bx:T5)(X6:xM p.aN=true)(dA:1<=p.ln/\p.ln<=100000000)(Y:YT)(K:So)(hK:∀b,jK p e=b->K (.bool b) (bW p (mI p.aN) kB bx)):
  aB Tryz.prog aD Y 208 [.ptr 3 0,.agg (Qd e)] (bW p (mI p.aN) kB bx) K:=by
 refine Wi (Xl adh jL zd ?_);obtain⟨r,hr,QV⟩:=Dg p e.it;simp[ahJ,ahK,bW,Qa,Qd];refine Uh ?_;obtain⟨n,y,hf,rfl⟩|⟨hf,rfl⟩:=QV
 ·obtain⟨g1,g2,g3,g4⟩:=X5 (pI X6 y (xN hf).1);have h1:=Yw e.fr 1 y.fr;by_cases c1:y.ki=5
  ·simp[hr,Qm,c1];exact pH _ rfl (Idle.bool _) (hK _ (by simp[jK,hf,c1]))
  cases c2:wi e.fr 1 y.fr with
  |false=>
   rw[c2]at h1;simp[hr,Qm,c1,c2,jL];exact⟨h1,pH _ rfl (Idle.bool _) (hK _ (by simp[jK,hf,c1,c2]))⟩
  |true=>
   rw[c2]at h1;have c2':1<=e.fr/\e.fr<=y.fr:=by simpa[wi]using c2
   have hw:IntKind.i64.wrap (p.ln-e.fr)=p.ln-e.fr:=by rw[Ql]<;>omega
   by_cases c3:y.ki≠4/\e.fr≠y.fr
   ·simp[hr,Qm,c1,c2,jL,c3.1,c3.2];exact⟨h1,pH _ rfl (Idle.bool _) (hK _ (by simp[jK,hf,c1,c2,c3.1,c3.2]))⟩
   have fin:∀b,(decide (0<=e.ea)&&(decide (e.ea<=e.la)&&decide (e.la<=p.ln-e.fr)))=b->jK p e=b:=fun b hb=>by
    rw[jK,hf];simp only;rw[if_neg c1,if_neg (by simp[c2]),if_neg c3];exact hb
   have c3':y.ki=4\/(¬y.ki=4/\e.fr=y.fr):=by
    by_cases h:y.ki=4
    ·exact .inl h
    exact .inr ⟨h,by by_cases h':e.fr=y.fr;exact h';exact absurd ⟨h,h'⟩ c3⟩
   by_cases d1:0<=e.ea
   ·by_cases d2:e.ea<=e.la
    ·by_cases d3:e.la<=p.ln-e.fr
     ·obtain c|⟨c,c'⟩:=c3'
      ·simp[hr,Qm,c1,c2,jL,c,hw,d1,d2,d3];exact⟨h1,pH _ rfl (Idle.bool _) (hK _ (fin _ (by simp[d1,d2,d3])))⟩
      rw[<- c']at c2 h1;simp[hr,Qm,c1,c2,jL,c,<- c',hw,d1,d2,d3];exact⟨h1,pH _ rfl (Idle.bool _) (hK _ (fin _ (by simp[d1,d2,d3])))⟩
     obtain c|⟨c,c'⟩:=c3'
     ·simp[hr,Qm,c1,c2,jL,c,hw,d1,d2,d3];exact⟨h1,pH _ rfl (Idle.bool _) (hK _ (fin _ (by simp[d1,d2,d3])))⟩
     rw[<- c']at c2 h1;simp[hr,Qm,c1,c2,jL,c,<- c',hw,d1,d2,d3];exact⟨h1,pH _ rfl (Idle.bool _) (hK _ (fin _ (by simp[d1,d2,d3])))⟩
    obtain c|⟨c,c'⟩:=c3'
    ·simp[hr,Qm,c1,c2,jL,c,d1,d2];exact⟨h1,pH _ rfl (Idle.bool _) (hK _ (fin _ (by simp[d1,d2])))⟩
    rw[<- c']at c2 h1;simp[hr,Qm,c1,c2,jL,c,<- c',d1,d2];exact⟨h1,pH _ rfl (Idle.bool _) (hK _ (fin _ (by simp[d1,d2])))⟩
   obtain c|⟨c,c'⟩:=c3'
   ·simp[hr,Qm,c1,c2,jL,c,d1];exact⟨h1,pH _ rfl (Idle.bool _) (hK _ (fin _ (by simp[d1])))⟩
   rw[<- c']at c2 h1;simp[hr,Qm,c1,c2,jL,c,<- c',d1];exact⟨h1,pH _ rfl (Idle.bool _) (hK _ (fin _ (by simp[d1])))⟩
 simp[hr];exact pH _ rfl (Idle.bool _) (hK _ (by simp[jK,hf]))
open Go Go.Abs
def z6(p:Pl)(e:En)(a:Sp):Bool:=match Xj a.2 p.aN with
 |none=>false
 |some y=>decide (y.fr=e.fr)&&(decide (y.ki≠5)&&decide (y.ki≠4))
def N2(p:Pl)(e:En)(kB:List (Pi×AV))(b0:T5):AM:=bW p (mI p.aN) kB (b0++[[.ptr 3 0],Qd e])
def rdA{p:Pl}{e:En}{kB:List (Pi×AV)}{b0:T5}{K:So}{r:AV}{m':AM}(ex:T5)(hm:m'=bW p (mI p.aN) kB (b0++([.ptr 3 0]::Qd e::ex)))(hi:Idle r)(hK:K r (N2 p e kB b0)):RdK (N2 p e kB b0) K r m':=
 pH ex (by rw[hm];simp[N2,bW]) hi hK
def X7(p:Pl)(e:En)(a:Sp)(kB:List (Pi×AV))(b0:T5)(Y:YT)(K:So)(hK:K (.bool (!z6 p e a)) (N2 p e kB b0)):
  aB Tryz.prog aD Y 240 [.agg (Qe a),.ptr (b0.length+4) 0,.ptr (b0.length+5) 0] (N2 p e kB b0) K:=by
 refine Wi (Xl adw (fun _ _ _=>.junk) zd ?_);obtain⟨r,hr,QV⟩:=Dg p a.2;simp[ahW,ahX,N2,bW,Qa,Qd,Qe];refine Uh ?_;obtain⟨n,y,hf,rfl⟩|⟨hf,rfl⟩:=QV
 ·by_cases c1:y.fr=e.fr
  ·by_cases c2:y.ki=5
   ·have:(!z6 p e a)=true:=by simp[z6,hf,c1,c2]
    rw[this]at hK;simp[hr,Qm,c1,c2];exact rdA _ rfl (Idle.bool _) hK
   by_cases c3:y.ki=4
   ·have:(!z6 p e a)=true:=by simp[z6,hf,c1,c2,c3]
    rw[this]at hK;simp[hr,Qm,c1,c2,c3];exact rdA _ rfl (Idle.bool _) hK
   have:(!z6 p e a)=false:=by simp[z6,hf,c1,c2,c3]
   rw[this]at hK;have h':(y.ki==5||y.ki==4)=false:=by simp[c2,c3]
   simp[hr,Qm,c1,c2,c3];rw[h'];exact rdA _ rfl (Idle.bool _) hK
  have:(!z6 p e a)=true:=by simp[z6,hf,c1]
  rw[this]at hK;have h':(y.fr !=e.fr||y.ki==5||y.ki==4)=true:=by simp[c1]
  simp[hr,Qm,c1];rw[h'];exact rdA _ rfl (Idle.bool _) hK
 have:(!z6 p e a)=true:=by simp[z6,hf]
 rw[this]at hK;simp[hr];exact rdA _ rfl (Idle.bool _) hK
def jM{α:Type}(b:α->Bool):List α->Nat->Int
 |[],_=> -1
 |x::r,i=>if b x=true then(i:Int)else jM b r (i+1)
def xO{α:Type}(b:α->Bool):∀(l:List α)(i:Nat),(0<=jM b l i<->l.any b=true)
 |[],i=>by simp[jM]
 |x::r,i=>by
  rw[jM];cases h:b x with
  |true=>simp[h]
  |false=>simp[h,xO b r (i+1)]
def ar1(s n:Nat)(m0:AM)(R:Nat->Prop)(f:Nat->AV)(m:AM):Prop:=∃(i:Nat),f s=I i/\i<=n/\R i/\m=m0
def X8(p:Pl)(e:En)(L:List Sp)(hl:L.length<=8796093022208)(kB:List (Pi×AV))(b0:T5)(Y:YT)(K:So)(hK:K (I (jM (fun a=>!z6 p e a) L 0)) (N2 p e kB b0)):
  aB Tryz.prog aD Y 262 [.sl .ro (L.map Qe),.fn 240 [] [.ptr (b0.length+4) 0,.ptr (b0.length+5) 0]] (N2 p e kB b0) K:=by
 obtain⟨T,hT⟩:∃T,jM (fun a=>!z6 p e a) L 0=T:=⟨_,rfl⟩;rw[hT]at hK;refine Xl adG (fun _ _ _=>.gd false .junk) zd ?_;simp[aib];refine Qi vN (ar1 8 L.length (N2 p e kB b0) fun i=>jM (fun a=>!z6 p e a) (L.drop i) i=T) (fun f _=>L.length-(numOf (f 8)).toNat) ?_ ?_
 ·exact⟨0,zd,zE,Nm hT,rfl⟩
 rintro f m ⟨i,h8,hi,hx,rfl⟩;rcases zzaa i L.length with ah|bq
 ·obtain⟨a,ha⟩:=aV ah;have ai:=Zw ha;have aa:(i:Int)<(L.length:Int):=zE
  have hw:=bO i zE;rw[Za ha,jM]at hx;simp[h8,ah,aa,ai,vN,EJ];refine X7 p e a kB b0 Y _ ?_;cases hb:z6 p e a with
  |false=>
   rw[hb]at hx;simp at hx;simp[h8,vN,EJ,hx];exact hK
  |true=>
   rw[hb]at hx;simp at hx;simp[h8,vN,EJ,hw];refine⟨aQ,⟨i+1,zd,zE,hx,rfl⟩,zE⟩
 have bQ:¬(i:Int)<(L.length:Int):=zE
 rw[zzal bq,jM]at hx;simp[h8,bQ,zzbk.2 bq,vN,EJ,hx];exact hK
def KU(p:Pl)(e:En)(L:List Sp)(hl:L.length<=8796093022208)(kB:List (Pi×AV))(b0:T5)(Y:YT)(K:So)(hK:K (.bool (L.any fun a=>!z6 p e a)) (N2 p e kB b0)):
  aB Tryz.prog aD Y 241 [.sl .ro (L.map Qe),.fn 240 [] [.ptr (b0.length+4) 0,.ptr (b0.length+5) 0]] (N2 p e kB b0) K:=by
 have alL:=xO (fun a=>!z6 p e a) L 0;refine Xl adx (fun _ _ _=>.gd false .junk) zd ?_;simp[ahY];refine X8 p e L hl kB b0 Y _ ?_
 have:decide (0<=jM (fun a=>!z6 p e a) L 0)=L.any fun a=>!z6 p e a:=by
  rw[zzda,decide_eq_true_eq];exact alL
 simp[ahZ,this];simpa using hK
def mq(p:Pl)(e:En):Bool:=Kw 1 (p.rg-1) none (e.al.map fun x=>x.1)&&(!(decide (kindOf p e.it=4)&&decide (e.al≠[]))&&!(e.al.any fun a=>!z6 p e a))
def Bj(p:Pl)(e:En):UV:=fun _ f _=>if f=238 then .bool (Kw 1 (p.rg-1) none (e.al.map fun x=>x.1))else .gd false .junk
def alM(p:Pl)(e:En)(hl:e.al.length<=8796093022208)(N1:1<=p.rg/\p.rg<=8)(kB:List (Pi×AV))(bx:T5)(Y:YT)(K:So)(hK:∀b,mq p e=b->K (.bool b) (bW p (mI p.aN) kB bx)):
  aB Tryz.prog aD Y 209 [.ptr 3 0,.agg (Qd e)] (bW p (mI p.aN) kB bx) K:=by
 have Gd:=QO e.al 1 (p.rg-1) hl;refine Wi (Xl adi (Bj p e) zd ?_);obtain⟨r,hr,QV⟩:=Dg p e.it;have ri:IntKind.i64.wrap (p.rg-1)=p.rg-1:=by rw[Ql]<;>omega
 cases h1:Kw 1 (p.rg-1) none (e.al.map fun x=>x.1)with
 |false=>
  rw[h1]at Gd;simp[AA,oC,bW,Qa,Qd,ri,Bj,h1];exact⟨Gd,pH _ rfl (Idle.bool _) (hK _ (by simp[mq,h1]))⟩
 |true=>
  rw[h1]at Gd;have tl:∀(E:QQ),True:=fun _=>trivial;have SD:kindOf p e.it=4->e.al≠[]->mq p e=false:=fun h h'=>by simp[mq,h,h']
  have iI:¬(kindOf p e.it=4/\e.al≠[])->mq p e=!(e.al.any fun a=>!z6 p e a):=fun h=>by
   have:(decide (kindOf p e.it=4)&&decide (e.al≠[]))=false:=by
    rw[Bool.eq_false_iff];intro h';simp at h';exact h h'
   rw[mq,h1,this];rfl
  obtain⟨n,y,hf,rfl⟩|⟨hf,rfl⟩:=QV
  ·have hkd:kindOf p e.it=y.ki:=by simp[kindOf,hf]
   by_cases c1:y.ki=4
   ·by_cases c2:e.al=[]
    ·have PT:=iI (by simp[c2]);have c2l:¬0<e.al.length:=by simp[c2]
     simp[AA,oC,bW,Qa,Qd,ri,Bj,h1,hr,Qm,c1,c2];rw[c2]at Gd;refine⟨Gd,?_⟩;have:=KU p e [] zd kB bx Y;simp only[N2,bW,Qa,Qd,c2]at this;refine this _ ?_;simp[oC];exact pH _ rfl (Idle.bool _) (hK _ (by rw[PT,c2];rfl))
    have c2l:0<e.al.length:=zzdh.2 c2;simp[AA,oC,bW,Qa,Qd,ri,Bj,h1,hr,Qm,c1,c2l];exact⟨Gd,pH _ rfl (Idle.bool _) (hK _ (SD (by rw[hkd,c1]) c2))⟩
   have PT:=iI (by rw[hkd];exact fun h=>c1 h.1);simp[AA,oC,bW,Qa,Qd,ri,Bj,h1,hr,Qm,c1];refine⟨Gd,?_⟩;have:=KU p e e.al hl kB bx Y;simp only[N2,bW,Qa,Qd]at this;refine this _ ?_;simp[oC];exact pH _ rfl (Idle.bool _) (hK _ (by rw[PT]))
  have PT:=iI (by simp[kindOf,hf]);simp[AA,oC,bW,Qa,Qd,ri,Bj,h1,hr];refine⟨Gd,?_⟩;have:=KU p e e.al hl kB bx Y;simp only[N2,bW,Qa,Qd]at this;refine this _ ?_;simp[oC];exact pH _ rfl (Idle.bool _) (hK _ (by rw[PT]))
open Go Go.Abs
def xP(x a:Sp):Bool:=x.1==a.1&&x.2==a.2
def X9(x:Sp)(L:List Sp):L.any (xP x)=decide (x∈L):=by
 rw[zzda];simp only[zzbq,decide_eq_true_eq,xP,zzac,beq_iff_eq];constructor
 ·rintro⟨a,h,h1,h2⟩;have:x=a:=Prod.ext h1 h2;rw[this];exact h
 exact fun h=>⟨x,h,rfl,rfl⟩
def Ys(x:Sp)(L:List Sp)(hl:L.length<=8796093022208):Pure Tryz.prog aD 263 [.sl .ro (L.map Qe),.agg (Qe x)] (I (jM (xP x) L 0)):=by
 obtain⟨T,hT⟩:∃T,jM (xP x) L 0=T:=⟨_,rfl⟩;rw[hT];refine Qp adH (fun _ _ _=>.junk) zd ?_;simp[aic,Qe];refine Qi Co (ar1 8 L.length ⟨[[I x.1,I x.2]],[],fun _=>.gone,0⟩ fun i=>jM (xP x) (L.drop i) i=T) (fun f _=>L.length-(numOf (f 8)).toNat) ?_ ?_
 ·exact⟨0,zd,zE,Nm hT,rfl⟩
 rintro f m ⟨i,h8,hi,hx,rfl⟩;rcases zzaa i L.length with ah|bq
 ·obtain⟨a,ha⟩:=aV ah;have ai:Qh (L.map Qe) i=Qe a:=Zw ha;have aiD:Qh (L.map fun x=>[I x.1,I x.2]) i=Qe a:=ai;have aa:(i:Int)<(L.length:Int):=zE
  have hw:=bO i zE;rw[Za ha,jM]at hx;cases hb:xP x a with
  |false=>
   rw[hb]at hx;simp at hx;simp only[xP]at hb;simp[h8,ah,aa,ai,aiD,Co,Nn,hw,Qe,hb];refine⟨aQ,⟨i+1,zd,zE,hx,rfl⟩,zE⟩
  |true=>
   rw[hb]at hx;simp at hx;simp only[xP]at hb;subst hx;simp[h8,ah,aa,ai,aiD,Co,Nn,Qe,hb]
 have bQ:¬(i:Int)<(L.length:Int):=zE
 rw[zzal bq,jM]at hx;simp[h8,bQ,zzbk.2 bq,Co,Nn,hx]
def Ge(x:Sp)(L:List Sp)(hl:L.length<=8796093022208):Pure Tryz.prog aD 242 [.sl .ro (L.map Qe),.agg (Qe x)] (.bool (decide (x∈L))):=by
 have k:=Ys x L hl;have alL:=xO (xP x) L 0;refine Qp ady (fun _ _ _=>I (jM (xP x) L 0)) zd ?_
 have:decide (0<=jM (xP x) L 0)=decide (x∈L):=by
  rw[<- X9,zzda,decide_eq_true_eq];exact alL
 simp[ah0,ah1,this,Qe];simpa[Qe]using k
def alN(p:Pl)(id:Int):∃r,Xh [id] (mK p.bks) 0=r/\((∃n x,Gb id p.bks=some x/\r=some (n,.agg (Xi x)))\/(Gb id p.bks=none/\r=none)):=by
 obtain⟨g1,g2⟩:=ar0 id p.bks 0;cases hf:Gb id p.bks with
 |none=>exact⟨_,rfl,.inr ⟨rfl,g1 hf⟩⟩
 |some x=>
  obtain⟨n,g⟩:=g2 x hf;exact⟨_,rfl,.inl ⟨n,x,rfl,g⟩⟩
def QW(p:Pl)(e:En):Bool:=if e.bo=0 then true else match Gb e.bo p.bks with
 |none=>false
 |some x=>if x.re=0 then decide (x.it=e.it)else decide ((x.re,x.it)∈e.al)
def QX(p:Pl)(e:En)(hl:e.al.length<=8796093022208)(kI:List (Pi×AV))(bx:T5)(Y:YT)(K:So)(hK:∀b,QW p e=b->K (.bool b) (bW p kI (mK p.bks) bx)):
  aB Tryz.prog aD Y 210 [.ptr 3 0,.agg (Qd e)] (bW p kI (mK p.bks) bx) K:=by
 obtain⟨r,hr,QV⟩:=alN p e.bo;by_cases h0:e.bo=0
 ·refine Wi (Xl Ck (fun _ _ _=>.junk) zd ?_);simp[Nc,Nd,bW,Qa,Qd,h0];exact pH _ rfl (Idle.bool _) (hK _ (by simp[QW,h0]))
 obtain⟨n,x,hf,rfl⟩|⟨hf,rfl⟩:=QV
 ·have k:=Ge (x.re,x.it) e.al hl;refine Wi (Xl Ck (fun _ _ _=>.bool (decide ((x.re,x.it)∈e.al))) zd ?_);simp[Nc,Nd,bW,Qa,Qd,h0];refine Uh ?_;by_cases c1:x.re=0
  ·simp[hr,Xi,c1];exact pH _ rfl (Idle.bool _) (hK _ (by simp only[QW,h0,hf,c1];rw[zzda];simp))
  simp[hr,Xi,c1];refine⟨by simpa[Qe]using k,pH _ rfl (Idle.bool _) (hK _ (by simp[QW,h0,hf,c1]))⟩
 refine Wi (Xl Ck (fun _ _ _=>.junk) zd ?_);simp[Nc,Nd,bW,Qa,Qd,h0];refine Uh ?_;simp[hr];exact pH _ rfl (Idle.bool _) (hK _ (by simp[QW,h0,hf]))
def xQ(p:Pl)(seen:Pi)(e:En):Bool:=wi e.id 1 1000000&&(!decide (e.id∈seen)&&(jK p e&&(mq p e&&QW p e)))
def z7(p:Pl):Pi->List En->Bool
 |_,[]=>true
 |seen,e::r=>xQ p seen e&&z7 p (seen++[e.id]) r
def sW(p:Pl):Bool:=decide (p.ens.length<=4000)&&z7 p [] p.ens
def mS(l:Pi):List (Pi×AV):=l.map fun n=>([n],.bool true)
def ar2(k:Int):∀(l:Pi)(i:Nat),(k∈l->∃n,Xh [k] (mS l) i=some (n,.bool true))/\(¬k∈l->Xh [k] (mS l) i=none)
 |[],i=>⟨fun h=>(by cases h),fun _=>rfl⟩
 |x::r,i=>by
  have ih:=ar2 k r (i+1);simp only[mS,zzas,Xh]at ih |-
  by_cases h:x=k
  ·subst h;simp
  have h':¬k=x:=fun e=>h e.symm;rw[if_neg (by intro e;cases e;exact h rfl)];simp only[zzam,h',false_or];exact ih
def xR:UV:=fun _ f l=>if f=204 then(match l with|[.int _ n,.int _ lo,.int _ up]=>.bool (wi n lo up)|_=>.junk)else .gd false .junk
def alO(p:Pl)(f:Nat->AV)(m:AM):Prop:=∃(i:Nat)(bx:T5),f 20=I i/\i<=p.ens.length/\z7 p ((p.ens.take i).map fun e=>e.id) (p.ens.drop i)=z7 p [] p.ens/\f 3=.mp 4/\m=bW p (mI p.aN) (mK p.bks) ([.aJ 0 (mS ((p.ens.take i).map fun e=>e.id))]::bx)
def Qdk{p:Pl}{i:Nat}{e:En}(h:p.ens[i]?=some e):Qh (p.ens.map Qd) i=Qd e:=Qu (by simp[h])
def QY(p:Pl)(hl:p.ens.length<=1000000000)(fO:∀e∈p.ens,e.al.length<=8796093022208)(X6:xM p.aN=true)(N1:1<=p.rg/\p.rg<=8)(dA:1<=p.ln/\p.ln<=100000000)(Y:YT)(K:So)(hK:∀b,sW p=b->K (.bool b) (bW p (mI p.aN) (mK p.bks) [])):
  aB Tryz.prog aD Y 156 [.ptr 3 0] (bW p (mI p.aN) (mK p.bks) []) K:=by
 refine Wi (Xl acD xR zd ?_);by_cases h0:p.ens.length<=4000
 ·have zD:¬(4000:Int)<(p.ens.length:Int):=zE
  simp[MV,bW,Qa,h0,zD];refine Qi qA (alO p) (fun f _=>p.ens.length-(numOf (f 20)).toNat) ?_ ?_
  ·exact⟨0,[],zd,zE,zd,zd,by simp[bW,Qa,mS]⟩
  rintro f m ⟨i,bx,h20,hi,ha,h3,rfl⟩;rcases zzaa i p.ens.length with ah|bq
  ·obtain⟨e,he⟩:=aV ah;have ai:=Qdk he;have aa:(i:Int)<(p.ens.length:Int):=zE
   have hw:=bO i zE;have bB:(p.ens.take (i+1)).map (fun e=>e.id)=(p.ens.take i).map (fun e=>e.id)++[e.id]:=by simp[zzb,he]
   rw[Za he,z7,<- bB]at ha;obtain⟨S,hS⟩:∃S,(p.ens.take i).map (fun e=>e.id)=S:=⟨_,rfl⟩;rw[hS]at ha bB |-
   have h1:=Yw e.id 1 1000000;have hae:=fO e (zzad he);obtain⟨s1,s2⟩:=ar2 e.id S 0;have bad:xQ p S e=false->sW p=false:=fun h=>by rw[h]at ha;simp[sW,<- ha]
   cases e1:wi e.id 1 1000000 with
   |false=>
    rw[e1]at h1;simp[h20,h3,ah,aa,ai,Qd,bW,Qa,xR,e1,qA,se];exact⟨h1,pH _ rfl (Idle.bool _) (hK _ (bad (by simp[xQ,e1])))⟩
   |true=>
    rw[e1]at h1;by_cases e2:e.id∈S
    ·obtain⟨n,s1⟩:=s1 e2;simp[h20,h3,ah,aa,ai,Qd,bW,Qa,xR,e1,s1,qA,se];exact⟨h1,pH _ rfl (Idle.bool _) (hK _ (bad (by simp[xQ,e1,e2])))⟩
    have s2:=s2 e2;simp[h20,h3,ah,aa,ai,Qd,bW,Qa,xR,e1,s2,qA];refine⟨h1,alK p e (mK p.bks) ([.aJ 0 (mS S)]::(bx++[Qd e])) X6 dA Y _ fun b hb=>?_⟩;cases b with
    |false=>
     simp[se];exact pH _ rfl (Idle.bool _) (hK _ (bad (by simp[xQ,e1,e2,hb])))
    |true=>
     simp[bW,Qa,Qd,xR];refine alM p e hae N1 (mK p.bks) ([.aJ 0 (mS S)]::(bx++[Qd e])) Y _ fun b fV=>?_;cases b with
     |false=>
      simp[se];exact pH _ rfl (Idle.bool _) (hK _ (bad (by simp[xQ,e1,e2,hb,fV])))
     |true=>
      simp[bW,Qa,Qd,xR];refine QX p e hae (mI p.aN) ([.aJ 0 (mS S)]::(bx++[Qd e])) Y _ fun b hb3=>?_;cases b with
      |false=>
       simp[se];exact pH _ rfl (Idle.bool _) (hK _ (bad (by simp[xQ,e1,e2,hb,fV,hb3])))
      |true=>
       have bV:xQ p S e=true:=by simp[xQ,e1,e2,hb,fV,hb3]
       rw[bV,zzdo]at ha;simp[h20,h3,bW,Qa,Qd,xR,s2,hw,qA];refine⟨aQ,⟨i+1,bx++[Qd e],zd,zE,ha,by simp[h3],?_⟩,zE⟩
       ·rw[bB];simp[bW,Qa,Qd,mS]
  have bQ:¬(i:Int)<(p.ens.length:Int):=zE
  rw[zzal bq]at ha;have ha:z7 p [] p.ens=true:=by rw[<- ha];rfl
  simp[h20,bQ,zzbk.2 bq,qA,se,bW,Qa];exact pH _ rfl (Idle.bool _) (hK _ (by simp[sW,h0,ha]))
 have zD:(4000:Int)<(p.ens.length:Int):=zE
 simp[MV,se,bW,Qa,h0,zD];exact pH [] zd (Idle.bool _) (hK _ (by simp[sW,h0]))
open Go Go.Abs
def pJ(p:Pl):Bool:=Jn p&&(SN p&&(jJ p&&(sW p&&Qds p)))
def pK(p:Pl):UV:=fun _ f _=>if f=153 then .bool (Jn p)else if f=157 then .bool (Qds p)else .gd false .junk
def PlS(p:Pl):Prop:=p.sh.length<=1000000000/\p.aN.length<=1000000000/\p.ens.length<=1000000000/\p.bks.length<=8796093022208/\p.cls.length<=1000000000/\∀e∈p.ens,e.al.length<=8796093022208
def Wx(p:Pl)(h:PlS p):Pure Tryz.prog aD 95 [.agg (Qa p)] (.bool (pJ p)):=by
 obtain⟨l1,l2,l3,l4,l5,l6⟩:=h;have k44:=aej p l1;have k48:=QS p l5;refine Qp akT (pK p) zd ?_;cases e1:Jn p with
 |false=>
  rw[e1]at k44;simp[akS,Pm,Qa,pK,pJ,e1];simpa[Qa]using k44
 |true=>
  rw[e1]at k44
  have hs:(1<=p.rg/\p.rg<=8)/\(1<=p.ln/\p.ln<=100000000):=by
   simp[Jn,wi]at e1;omega
  simp[akS,Qa,pK,pJ,e1];refine⟨by simpa[Qa]using k44,?_⟩;refine aep p l2 Y0 _ (fun e2=>?_) (fun e2 kI=>?_)
  ·simp[bW,Qa,pK,e2];refine aeq p l4 hs.1 Y0 _ (fun e3=>?_) (fun e3 kB=>?_)
   ·simp[bW,Qa,pK,e3]
    have X6:xM p.aN=true:=by
     simp[SN]at e2;exact e2.2.2.1
    refine QY p l3 l6 X6 hs.1 hs.2 Y0 _ fun b e4=>?_;cases b with
    |false=>simp[Pm,bW,Qa,pK,e4]
    |true=>
     simp[Pm,bW,Qa,pK,e4];simpa[Qa]using k48
   simp[Pm,bW,Qa,pK,e3]
  simp[Pm,bW,Qa,pK,e2]
