import Derived.Test.YthjppoincojfkaaGreatDoorRTSpG
set_option linter.all false
set_option maxRecDepth 100000
set_option maxHeartbeats 64000000
namespace Go.Proofs.YthjppoincojfkaaGreatDoor
open Go Go.Abs
def Yy(n lo up:Int):Pure Tryz.prog aD 204 [I n,I lo,I up] (.bool (wi n lo up)):=by
 refine Qp adv (fun _ _ _=>.junk) zd ?_;by_cases h1:lo<=n<;>by_cases h2:n<=up<;>simp[ah0,ah1,wi,h1,h2]
def aiX(e:It):Pure Tryz.prog aD 37 [.agg (Qm e)] (I e.id):=by
 refine Qp Tc (fun _ _ _=>.junk) zd ?_;simp[aka,Qm,akb]
def xw(e:Bk):Pure Tryz.prog aD 207 [.agg (Xi e)] (I e.id):=by
 refine Qp ady (fun _ _ _=>.junk) zd ?_;simp[ah2,Xi,ah3]
def xx(e:Sp):Pure Tryz.prog aD 239 [.agg (Qe e)] (I e.1):=by
 refine Qp adP (fun _ _ _=>.junk) zd ?_;simp[aif,Qe,aih]
def SL(k:Int):Option Int->Bool
 |some q=>decide (k<=q)
 |none=>false
def Kt(lo up:Int):Option Int->Pi->Bool
 |_,[]=>true
 |pr,k::r=>if k<lo\/up<k\/SL k pr=true then false else Kt lo up (some k) r
def IF(ks:Pi):Nat->Option Int
 |0=>none
 |i+1=>ks[i]?
def Qdy{ks:Pi}{i:Nat}{k:Int}(h:ks[i]?=some k):IF ks (i+1)=some k:=h
def keyOf:P2->Int
 |[.agg (.int _ n::_)]=>n
 |_=>0
def iu:UV:=fun _ _ l=>I (keyOf l)
def qZ{lo up:Int}{ks:Pi}{i:Nat}{k:Int}(h:ks[i]?=some k):Kt lo up (IF ks i) (ks.drop i)=if k<lo\/up<k\/SL k (IF ks i)=true then false else Kt lo up (IF ks (i+1)) (ks.drop (i+1)):=by
 obtain⟨hi,hk⟩:=zza.1 h;rw[zzai hi,hk,Kt,Qdy h]
def N3(s n:Nat)(R:Nat->Prop)(f:Nat->AV)(m:AM):Prop:=∃(i:Nat)(bx:T5),f s=I i/\i<=n/\R i/\m=⟨bx,[],fun _=>.gone,0⟩
def QY(L:List It)(lo up:Int)(hl:L.length<=8796093022208):Pure Tryz.prog aD 205 [.sl .ro (L.map Qm),I lo,I up,.fn 37 [] []] (.bool (Kt lo up none (L.map fun x=>x.id))):=by
 obtain⟨T,hT⟩:∃T,Kt lo up none (L.map fun x=>x.id)=T:=⟨_,rfl⟩;rw[hT];refine Qp adw iu zd ?_;simp[UM];refine Qj mC (N3 14 L.length fun i=>Kt lo up (IF (L.map fun x=>x.id) i) ((L.map fun x=>x.id).drop i)=T) (fun f _=>L.length-(numOf (f 14)).toNat) ?_ ?_
 ·exact⟨0,_,zd,zE,by simpa[IF]using hT,rfl⟩
 rintro f m ⟨i,bx,tO,hi,ha,rfl⟩;rcases zzaa i L.length with ah|bu
 ·obtain⟨x,hx⟩:=aV ah;have ai:Qi (L.map Qm) i=Qm x:=Qw (by simp[hx]);have aa:(i:Int)<(L.length:Int):=zE
  have hw:=bO i zE;have hk:=aiX x;have Ys:(L.map fun x=>x.id)[i]?=some x.id:=by simp[hx]
  rw[qZ Ys]at ha;by_cases c1:x.id<lo
  ·rw[ac (.inl c1)]at ha;subst ha;simp[tO,ah,aa,ai,Qm,iu,keyOf,c1,mC,vw];simpa[Qm]using hk
  by_cases c2:up<x.id
  ·rw[ac (.inr (.inl c2))]at ha;subst ha;simp[tO,ah,aa,ai,Qm,iu,keyOf,c1,c2,mC,vw];simpa[Qm]using hk
  cases i with
  |zero=>
   rw[ab (by simp[c1,c2,IF,SL])]at ha;have lq:IntKind.i64.wrap 1=1:=by decide
   simp[tO,ah,aa,ai,Qm,iu,keyOf,c1,c2,mC,vw,hw,lq];refine⟨by simpa[Qm]using hk,aQ,⟨1,_,zd,zE,ha,rfl⟩,zE⟩
  |succ j=>
   have dF:j<L.length:=zE
   have sL:(j:Int)<(L.length:Int):=zE
   obtain⟨y,hy⟩:=aV dF;have sM:Qi (L.map Qm) j=Qm y:=Qw (by simp[hy]);have hky:=aiX y;have sN:IF (L.map fun x=>x.id) (j+1)=some y.id:=Qdy (by simp[hy]);have IG:IntKind.i64.wrap (((j+1:Nat):Int)-1)=(j:Int):=by rw[Ql]<;>omega
   have F8:IntKind.i64.wrap ((j:Int)+1-1)=(j:Int):=by rw[Ql]<;>omega
   have xy:IntKind.i64.wrap (j:Int)=(j:Int):=by rw[Ql]<;>omega
   have dX:(0:Int)<(j:Int)+1:=zE
   have hj0:(0:Int)<=(j:Int):=zE
   have F9:(0:Int)<=(j:Int)+1:=zE
   have N4:¬(j:Int)<0:=zE
   have Ga:(j:Int)+1<(L.length:Int):=zE
   have fV:IntKind.i64.wrap ((j:Int)+1+1)=((j+1+1:Nat):Int):=by rw[Ql]<;>omega
   by_cases c3:x.id<=y.id
   ·rw[ac (.inr (.inr (by rw[sN];simp[SL,c3])))]at ha;subst ha;simp[tO,ah,aa,Ga,dX,hj0,F9,N4,IG,F8,xy,dF,sL,ai,sM,Qm,iu,keyOf,c1,c2,c3,mC,vw];exact⟨by simpa[Qm]using hk,by simpa[Qm]using hky⟩
   rw[ab (by rw[sN];simp[c1,c2,c3,SL])]at ha;simp[tO,ah,aa,Ga,dX,hj0,F9,N4,IG,F8,xy,dF,sL,ai,sM,Qm,iu,keyOf,c1,c2,c3,mC,vw,fV];refine⟨by simpa[Qm]using hk,by simpa[Qm]using hky,aQ,⟨j+1+1,_,zd,zE,ha,rfl⟩,zE⟩
 obtain rfl:i=L.length:=zE
 rw[zzam zd]at ha;have ha:true=T:=by rw[<- ha];simp[Kt]
 subst ha;simp[tO,mC,vw]
def QZ(L:List Bk)(lo up:Int)(hl:L.length<=8796093022208):Pure Tryz.prog aD 206 [.sl .ro (L.map Xi),I lo,I up,.fn 207 [] []] (.bool (Kt lo up none (L.map fun x=>x.id))):=by
 obtain⟨T,hT⟩:∃T,Kt lo up none (L.map fun x=>x.id)=T:=⟨_,rfl⟩;rw[hT];refine Qp adx iu zd ?_;simp[UN];refine Qj mD (N3 14 L.length fun i=>Kt lo up (IF (L.map fun x=>x.id) i) ((L.map fun x=>x.id).drop i)=T) (fun f _=>L.length-(numOf (f 14)).toNat) ?_ ?_
 ·exact⟨0,_,zd,zE,by simpa[IF]using hT,rfl⟩
 rintro f m ⟨i,bx,tO,hi,ha,rfl⟩;rcases zzaa i L.length with ah|bu
 ·obtain⟨x,hx⟩:=aV ah;have ai:Qi (L.map Xi) i=Xi x:=Qw (by simp[hx]);have aa:(i:Int)<(L.length:Int):=zE
  have hw:=bO i zE;have hk:=xw x;have Ys:(L.map fun x=>x.id)[i]?=some x.id:=by simp[hx]
  rw[qZ Ys]at ha;by_cases c1:x.id<lo
  ·rw[ac (.inl c1)]at ha;subst ha;simp[tO,ah,aa,ai,Xi,iu,keyOf,c1,mD,vz];simpa[Xi]using hk
  by_cases c2:up<x.id
  ·rw[ac (.inr (.inl c2))]at ha;subst ha;simp[tO,ah,aa,ai,Xi,iu,keyOf,c1,c2,mD,vz];simpa[Xi]using hk
  cases i with
  |zero=>
   rw[ab (by simp[c1,c2,IF,SL])]at ha;have lq:IntKind.i64.wrap 1=1:=by decide
   simp[tO,ah,aa,ai,Xi,iu,keyOf,c1,c2,mD,vz,hw,lq];refine⟨by simpa[Xi]using hk,aQ,⟨1,_,zd,zE,ha,rfl⟩,zE⟩
  |succ j=>
   have dF:j<L.length:=zE
   have sL:(j:Int)<(L.length:Int):=zE
   obtain⟨y,hy⟩:=aV dF;have sM:Qi (L.map Xi) j=Xi y:=Qw (by simp[hy]);have hky:=xw y;have sN:IF (L.map fun x=>x.id) (j+1)=some y.id:=Qdy (by simp[hy]);have IG:IntKind.i64.wrap (((j+1:Nat):Int)-1)=(j:Int):=by rw[Ql]<;>omega
   have F8:IntKind.i64.wrap ((j:Int)+1-1)=(j:Int):=by rw[Ql]<;>omega
   have xy:IntKind.i64.wrap (j:Int)=(j:Int):=by rw[Ql]<;>omega
   have dX:(0:Int)<(j:Int)+1:=zE
   have hj0:(0:Int)<=(j:Int):=zE
   have F9:(0:Int)<=(j:Int)+1:=zE
   have N4:¬(j:Int)<0:=zE
   have Ga:(j:Int)+1<(L.length:Int):=zE
   have fV:IntKind.i64.wrap ((j:Int)+1+1)=((j+1+1:Nat):Int):=by rw[Ql]<;>omega
   by_cases c3:x.id<=y.id
   ·rw[ac (.inr (.inr (by rw[sN];simp[SL,c3])))]at ha;subst ha;simp[tO,ah,aa,Ga,dX,hj0,F9,N4,IG,F8,xy,dF,sL,ai,sM,Xi,iu,keyOf,c1,c2,c3,mD,vz];exact⟨by simpa[Xi]using hk,by simpa[Xi]using hky⟩
   rw[ab (by rw[sN];simp[c1,c2,c3,SL])]at ha;simp[tO,ah,aa,Ga,dX,hj0,F9,N4,IG,F8,xy,dF,sL,ai,sM,Xi,iu,keyOf,c1,c2,c3,mD,vz,fV];refine⟨by simpa[Xi]using hk,by simpa[Xi]using hky,aQ,⟨j+1+1,_,zd,zE,ha,rfl⟩,zE⟩
 obtain rfl:i=L.length:=zE
 rw[zzam zd]at ha;have ha:true=T:=by rw[<- ha];simp[Kt]
 subst ha;simp[tO,mD,vz]
def Q0(L:List Sp)(lo up:Int)(hl:L.length<=8796093022208):Pure Tryz.prog aD 238 [.sl .ro (L.map Qe),I lo,I up,.fn 239 [] []] (.bool (Kt lo up none (L.map fun x=>x.1))):=by
 obtain⟨T,hT⟩:∃T,Kt lo up none (L.map fun x=>x.1)=T:=⟨_,rfl⟩;rw[hT];refine Qp adO iu zd ?_;simp[UW];refine Qj mE (N3 14 L.length fun i=>Kt lo up (IF (L.map fun x=>x.1) i) ((L.map fun x=>x.1).drop i)=T) (fun f _=>L.length-(numOf (f 14)).toNat) ?_ ?_
 ·exact⟨0,_,zd,zE,by simpa[IF]using hT,rfl⟩
 rintro f m ⟨i,bx,tO,hi,ha,rfl⟩;rcases zzaa i L.length with ah|bu
 ·obtain⟨x,hx⟩:=aV ah;have ai:Qi (L.map Qe) i=Qe x:=Qw (by simp[hx]);have aa:(i:Int)<(L.length:Int):=zE
  have hw:=bO i zE;have hk:=xx x;have Ys:(L.map fun x=>x.1)[i]?=some x.1:=by simp[hx]
  rw[qZ Ys]at ha;by_cases c1:x.1<lo
  ·rw[ac (.inl c1)]at ha;subst ha;simp[tO,ah,aa,ai,Qe,iu,keyOf,c1,mE,vB];simpa[Qe]using hk
  by_cases c2:up<x.1
  ·rw[ac (.inr (.inl c2))]at ha;subst ha;simp[tO,ah,aa,ai,Qe,iu,keyOf,c1,c2,mE,vB];simpa[Qe]using hk
  cases i with
  |zero=>
   rw[ab (by simp[c1,c2,IF,SL])]at ha;have lq:IntKind.i64.wrap 1=1:=by decide
   simp[tO,ah,aa,ai,Qe,iu,keyOf,c1,c2,mE,vB,hw,lq];refine⟨by simpa[Qe]using hk,aQ,⟨1,_,zd,zE,ha,rfl⟩,zE⟩
  |succ j=>
   have dF:j<L.length:=zE
   have sL:(j:Int)<(L.length:Int):=zE
   obtain⟨y,hy⟩:=aV dF;have sM:Qi (L.map Qe) j=Qe y:=Qw (by simp[hy]);have hky:=xx y;have sN:IF (L.map fun x=>x.1) (j+1)=some y.1:=Qdy (by simp[hy]);have IG:IntKind.i64.wrap (((j+1:Nat):Int)-1)=(j:Int):=by rw[Ql]<;>omega
   have F8:IntKind.i64.wrap ((j:Int)+1-1)=(j:Int):=by rw[Ql]<;>omega
   have xy:IntKind.i64.wrap (j:Int)=(j:Int):=by rw[Ql]<;>omega
   have dX:(0:Int)<(j:Int)+1:=zE
   have hj0:(0:Int)<=(j:Int):=zE
   have F9:(0:Int)<=(j:Int)+1:=zE
   have N4:¬(j:Int)<0:=zE
   have Ga:(j:Int)+1<(L.length:Int):=zE
   have fV:IntKind.i64.wrap ((j:Int)+1+1)=((j+1+1:Nat):Int):=by rw[Ql]<;>omega
   by_cases c3:x.1<=y.1
   ·rw[ac (.inr (.inr (by rw[sN];simp[SL,c3])))]at ha;subst ha;simp[tO,ah,aa,Ga,dX,hj0,F9,N4,IG,F8,xy,dF,sL,ai,sM,Qe,iu,keyOf,c1,c2,c3,mE,vB];exact⟨by simpa[Qe]using hk,by simpa[Qe]using hky⟩
   rw[ab (by rw[sN];simp[c1,c2,c3,SL])]at ha;simp[tO,ah,aa,Ga,dX,hj0,F9,N4,IG,F8,xy,dF,sL,ai,sM,Qe,iu,keyOf,c1,c2,c3,mE,vB,fV];refine⟨by simpa[Qe]using hk,by simpa[Qe]using hky,aQ,⟨j+1+1,_,zd,zE,ha,rfl⟩,zE⟩
 obtain rfl:i=L.length:=zE
 rw[zzam zd]at ha;have ha:true=T:=by rw[<- ha];simp[Kt]
 subst ha;simp[tO,mE,vB]
def Jr(p:Pl):Bool:=wi p.ch 0 39&&(Vh p.nu p.de&&(Yj p.of p.sh&&(wi p.ep 0 9000000000&&(wi p.rg 1 8&&wi p.ln 1 100000000))))
def xA(p:Pl):UV:=fun _ f l=>
 if f=132 then .bool (Vh p.nu p.de)else if f=133 then .bool (Yj p.of p.sh)else(match l with|[.int _ n,.int _ lo,.int _ up]=>.bool (wi n lo up)|_=>.junk)
def aeB(p:Pl)(fC:p.sh.length<=1000000000):Pure Tryz.prog aD 153 [.ep (Qa p++[.junk,.junk]) 0] (.bool (Jr p)):=by
 have h1:=Yy p.ch 0 39;have h2:=Wq p.nu p.de;have h3:=jf p.of p.sh fC;have h4:=Yy p.ep 0 9000000000;have h5:=Yy p.rg 1 8;have h6:=Yy p.ln 1 100000000;refine Qp acS (xA p) zd ?_;cases e1:wi p.ch 0 39 with
 |false=>rw[e1]at h1;simp[vk,vl,Qa,xA,Jr,e1];exact h1
 |true=>
  rw[e1]at h1;cases e2:Vh p.nu p.de with
  |false=>rw[e2]at h2;simp[vk,vl,Qa,xA,Jr,e1,e2];exact⟨h1,h2⟩
  |true=>
   rw[e2]at h2;cases e3:Yj p.of p.sh with
   |false=>rw[e3]at h3;simp[vk,vl,Qa,xA,Jr,e1,e2,e3];exact⟨h1,h2,h3⟩
   |true=>
    rw[e3]at h3;cases e4:wi p.ep 0 9000000000 with
    |false=>rw[e4]at h4;simp[vk,vl,Qa,xA,Jr,e1,e2,e3,e4];exact⟨h1,h2,h3,h4⟩
    |true=>
     rw[e4]at h4;cases e5:wi p.rg 1 8 with
     |false=>rw[e5]at h5;simp[vk,vl,Qa,xA,Jr,e1,e2,e3,e4,e5];exact⟨h1,h2,h3,h4,h5⟩
     |true=>rw[e5]at h5;simp[vk,vl,Qa,xA,Jr,e1,e2,e3,e4,e5];exact⟨h1,h2,h3,h4,h5,h6⟩
def aeC:List Cl->Bool
 |[]=>true
 |c::r=>Zd c&&aeC r
def Qdk(p:Pl):Bool:=decide (p.cls.length<=400)&&aeC p.cls
def Bb:UV:=fun _ _ l=>match l with
 |[.agg [.int _ a,.int _ b,.int _ c,.int _ d,.int _ e,.int _ f,.int _ g,.int _ h]]=>.bool (Zd ⟨a,b,c,d,e,f,g,h⟩)
 |_=>.junk
def Q1(p:Pl)(hc:p.cls.length<=1000000000):Pure Tryz.prog aD 157 [.ep (Qa p++[.junk,.junk]) 0] (.bool (Qdk p)):=by
 refine Qp acW Bb zd ?_;by_cases h0:p.cls.length<=400
 ·have zx:¬(400:Int)<(p.cls.length:Int):=zE
  obtain⟨T,hT⟩:∃T,Qdk p=T:=⟨_,rfl⟩;rw[hT];simp[T8,Qa,h0,zx];refine Qj B7 (N3 18 p.cls.length fun i=>aeC (p.cls.drop i)=T) (fun f _=>p.cls.length-(numOf (f 18)).toNat) ?_ ?_
  ·exact⟨0,_,zd,zE,by rw[<- hT];simp[Qdk,h0],rfl⟩
  rintro f m ⟨i,bx,h18,hi,ha,rfl⟩;rcases zzaa i p.cls.length with ah|bu
  ·obtain⟨x,hx⟩:=aV ah;have ai:Qi (p.cls.map Qg) i=Qg x:=Qw (by simp[hx]);have aa:(i:Int)<(p.cls.length:Int):=zE
   have hw:=bO i zE;have hk:=Kv x;rw[Zc hx,aeC]at ha;cases hv:Zd x with
   |false=>
    rw[hv]at ha hk;simp at ha;simp[h18,ah,aa,ai,Qg,Bb,hv,B7,EE,ha];simpa[Qg]using hk
   |true=>
    rw[hv]at ha hk;simp at ha;simp[h18,ah,aa,ai,Qg,Bb,hv,B7,EE,hw];refine⟨by simpa[Qg]using hk,aQ,⟨i+1,_,zd,zE,ha,rfl⟩,zE⟩
  obtain rfl:i=p.cls.length:=zE
  rw[zzc]at ha;have ha:true=T:=ha;subst ha;simp[h18,B7,EE]
 have zx:(400:Int)<(p.cls.length:Int):=zE
 simp[T8,EE,Qa,Qdk,h0,zx]
def mI(l:List It):List (Pi×AV):=l.map fun x=>([x.id],.agg (Qm x))
def mK(l:List Bk):List (Pi×AV):=l.map fun x=>([x.id],.agg (Xi x))
def Gb(id:Int):List Bk->Option Bk
 |[]=>none
 |x::r=>if x.id=id then some x else Gb id r
def xB{k:Pi}:∀{kvs:List (Pi×AV)}{i:Nat},(∀p∈kvs,p.1≠k)->Xh k kvs i=none
 |[],_,_=>rfl
 |(k',a)::r,i,h=>by
  rw[Xh,ab (fun e=>h (k',a) zd e.symm)];exact xB fun p hp=>h p (by simp[hp])
def al1(id:Int):∀(l:List It)(i:Nat),(Xk id l=none->Xh [id] (mI l) i=none)/\∀x,Xk id l=some x->∃n,Xh [id] (mI l) i=some (n,.agg (Qm x))
 |[],i=>⟨fun _=>rfl,fun x h=>by cases h⟩
 |y::r,i=>by
  have ih:=al1 id r (i+1);simp only[mI,zzar,Xh,Xk]at ih |-
  by_cases h:y.id=id
  ·rw[ac h,ac (by rw[h])];exact⟨fun h=>(by cases h),fun x h=>(by cases h;exact⟨i,rfl⟩)⟩
  rw[ab h,ab (by intro e;cases e;exact h rfl)];exact ih
def asj(id:Int):∀(l:List Bk)(i:Nat),(Gb id l=none->Xh [id] (mK l) i=none)/\∀x,Gb id l=some x->∃n,Xh [id] (mK l) i=some (n,.agg (Xi x))
 |[],i=>⟨fun _=>rfl,fun x h=>by cases h⟩
 |y::r,i=>by
  have ih:=asj id r (i+1);simp only[mK,zzar,Xh,Gb]at ih |-
  by_cases h:y.id=id
  ·rw[ac h,ac (by rw[h])];exact⟨fun h=>(by cases h),fun x h=>(by cases h;exact⟨i,rfl⟩)⟩
  rw[ab h,ab (by intro e;cases e;exact h rfl)];exact ih
def kH{lo up:Int}:∀{ks:Pi}{pr:Option Int},Kt lo up pr ks=true->ks.Pairwise (·<·)/\∀k∈ks,lo<=k/\k<=up/\∀q,pr=some q->q<k
 |[],pr,_=>⟨List.Pairwise.nil,fun k hk=>by cases hk⟩
 |k::r,pr,h=>by
  rw[Kt]at h;split at h
  ·cases h
  rename_i hn;simp only[not_or]at hn;obtain⟨h1,h2⟩:=kH h
  have hk:∀q,pr=some q->q<k:=fun q hq=>by
   have:=hn.2.2;subst hq;simp[SL]at this;omega
  refine⟨zzcg.2 ⟨fun a ha=>(h2 a ha).2.2 k rfl,h1⟩,fun a ha=>?_⟩;rcases zzao.1 ha with rfl|ha
  ·exact⟨zE,zE,hk⟩
  obtain⟨g1,g2,g3⟩:=h2 a ha;refine⟨g1,g2,fun q hq=>?_⟩;have:=hk q hq;have:=g3 k rfl;omega
def xC{α:Type}{key:α->Int}{row:α->AV}{l:List α}{i:Nat}{x:α}(h:(l.map key).Pairwise (·<·))(hx:l[i]?=some x):Xh [key x] ((l.take i).map fun x=>([key x],row x)) 0=none:=by
 refine xB fun p hp=>?_;obtain⟨y,hy,rfl⟩:=zzan.1 hp;obtain⟨j,hj,nV⟩:=zzgc hy;rw[zzas]at hj;rw[List.getElem_take]at nV;obtain⟨hi,hx⟩:=zza.1 hx
 have ah:key l[j]<key l[i]:=by
  have:=zzdu.1 h j i (by simp;omega) (Nm hi) zE;simpa using this
 intro e;rw[<- nV,<- hx]at e;simp only[List.cons.injEq,and_true]at e;omega
def SM(x:It):Bool:=wi x.ki 1 5&&(wi x.fr 1 100000000&&(wi x.sp 0 200&&wi x.ra 0 3))
def xD:List It->Bool
 |[]=>true
 |x::r=>SM x&&xD r
def gM(p:Pl):Bool:=match Xk p.fi p.aM with
 |some x=>decide (x.ki=5)
 |none=>false
def SN(p:Pl):Bool:=decide (p.aM.length<=4000)&&(Kt 1 1000000 none (p.aM.map fun x=>x.id)&&(xD p.aM&&gM p))
def bX(p:Pl)(kI kB:List (Pi×AV))(bx:T5):AM:=⟨Qa p::[.aJ 0 kI]::[.aJ 0 kB]::(Qa p++[.mp 1,.mp 2])::bx,[],fun _=>.gone,0⟩
def aeD(x:It):Idle (.agg (Qm x)):=Idle.agg fun c hc=>by
 simp only[Qm,zzao,zzdo,or_false]at hc;rcases hc with rfl|rfl|rfl|rfl|rfl<;>exact Idle.int _ _
def aeE(x:Bk):Idle (.agg (Xi x)):=Idle.agg fun c hc=>by
 simp only[Xi,zzao,zzdo,or_false]at hc;rcases hc with rfl|rfl|rfl|rfl|rfl|rfl|rfl<;>exact Idle.int _ _
def BkK(p:Pl)(K:So)(r:AV)(m:AM):Prop:=∃kI kB bx,m=bX p kI kB bx/\(∀e∈kI,Idle e.2)/\(∀e∈kB,Idle e.2)/\Idle r/\K r (bX p kI kB [])
def Bc{p:Pl}{K:So}{r:AV}{m:AM}(kI kB:List (Pi×AV))(bx:T5)(hm:m=bX p kI kB bx)(h1:∀e∈kI,Idle e.2)(h2:∀e∈kB,Idle e.2)(h3:Idle r)(h4:K r (bX p kI kB [])):BkK p K r m:=⟨kI,kB,bx,hm,h1,h2,h3,h4⟩
def sO{f:FuncId}{xs:P2}{p:Pl}{Y:YT}{k0 b0:List (Pi×AV)}{K:So}
  (h:aB Tryz.prog aD Y f xs (bX p k0 b0 []) (BkK p K)):aB Tryz.prog aD Y f xs (bX p k0 b0 []) K:=by
 refine aB.forget (aB.mono h ?_);rintro r m' ⟨kI,kB,bx,rfl,h1,h2,h3,h4⟩;refine⟨bX p kI kB [],bx,rfl,rfl,rfl,fun id cells hc=>?_,h3,h4⟩
 match id,hc with
 |0,hc=>exact .inl hc
 |1,hc=>cases hc;exact .inr (.inr ⟨0,kI,rfl,h1⟩)
 |2,hc=>cases hc;exact .inr (.inr ⟨0,kB,rfl,h2⟩)
 |3,hc=>exact .inl hc
 |n+4,hc=>cases hc
def o7(p:Pl):UV:=fun _ f l=>
 if f=205 then .bool (Kt 1 1000000 none (p.aM.map fun x=>x.id))else(match l with|[.int _ n,.int _ lo,.int _ up]=>.bool (wi n lo up)|_=>.junk)
def Vy(l:List It):∀e∈mI l,Idle e.2:=fun e he=>by
 obtain⟨x,_,rfl⟩:=zzan.1 he;exact aeD x
def Qau(l:List Bk):∀e∈mK l,Idle e.2:=fun e he=>by
 obtain⟨x,_,rfl⟩:=zzan.1 he;exact aeE x
def aeF{l:List It}{i:Nat}{x:It}(h:l[i]?=some x):mI (l.take (i+1))=mI (l.take i)++[([x.id],.agg (Qm x))]:=by
 simp[mI,zzay,h]
def aeG{l:List Bk}{i:Nat}{x:Bk}(h:l[i]?=some x):mK (l.take (i+1))=mK (l.take i)++[([x.id],.agg (Xi x))]:=by
 simp[mK,zzay,h]
def Uz{P:Pi×AV->Prop}:∀e∈([]:List (Pi×AV)),P e:=fun e h=>by cases h
def aiY(s n:Nat)(p:Pl)(kI kB:Nat->List (Pi×AV))(R:Nat->Prop)(f:Nat->AV)(m:AM):Prop:=∃(i:Nat)(bx:T5),f s=I i/\i<=n/\R i/\m=bX p (kI i) (kB i) bx
def aeH(p:Pl)(hl:p.aM.length<=1000000000)(Y:YT)(K:So)(VZ:SN p=true->K (.bool true) (bX p (mI p.aM) [] []))(rf:SN p=false->∀kI,K (.bool false) (bX p kI [] [])):
  aB Tryz.prog aD Y 154 [.ptr 3 0] (bX p [] [] []) K:=by
 have k90:=QY p.aM 1 1000000 zE;refine sO ?_;refine Xo acT (o7 p) zd ?_;by_cases h0:p.aM.length<=4000
 ·have zx:¬(4000:Int)<(p.aM.length:Int):=zE
  cases ha:Kt 1 1000000 none (p.aM.map fun x=>x.id)with
  |false=>
   rw[ha]at k90;simp[EC,oc,bX,Qa,h0,zx,o7,ha];exact⟨k90,Bc _ _ _ rfl Uz Uz (Idle.bool _) (rf (by simp[SN,ha]) [])⟩
  |true=>
   rw[ha]at k90;have hp:=(kH ha).1;simp[EC,bX,Qa,h0,zx,o7,ha];refine⟨k90,?_⟩;refine Qj iI (aiY 27 p.aM.length p (fun i=>mI (p.aM.take i)) (fun _=>[]) fun i=>xD (p.aM.drop i)=xD p.aM) (fun f _=>p.aM.length-(numOf (f 27)).toNat) ?_ ?_
   ·exact⟨0,[],zd,zE,zd,by simp[bX,Qa,mI]⟩
   rintro f m ⟨i,bx,h27,hi,fM,rfl⟩;rcases zzaa i p.aM.length with ah|bu
   ·obtain⟨x,hx⟩:=aV ah;have ai:Qi (p.aM.map Qm) i=Qm x:=Qw (by simp[hx]);have aa:(i:Int)<(p.aM.length:Int):=zE
    have hw:=bO i zE;have hkf:Xh [x.id] (mI (p.aM.take i)) 0=none:=xC (key:=fun x=>x.id) (row:=fun x=>.agg (Qm x)) hp hx;have bz:=aeF hx;rw[Zc hx,xD]at fM;have h1:=Yy x.ki 1 5;have h2:=Yy x.fr 1 100000000;have h3:=Yy x.sp 0 200;have h4:=Yy x.ra 0 3;have bad:SM x=false->SN p=false:=fun h=>by rw[h]at fM;simp[SN,<- fM]
    cases e1:wi x.ki 1 5 with
    |false=>
     rw[e1]at h1;simp[h27,ah,aa,ai,Qm,bX,Qa,o7,e1,iI,oc];exact⟨h1,Bc _ _ _ rfl (Vy _) Uz (Idle.bool _) (rf (bad (by simp[SM,e1])) _)⟩
    |true=>
     rw[e1]at h1;cases e2:wi x.fr 1 100000000 with
     |false=>
      rw[e2]at h2;simp[h27,ah,aa,ai,Qm,bX,Qa,o7,e1,e2,iI,oc];exact⟨h1,h2,Bc _ _ _ rfl (Vy _) Uz (Idle.bool _) (rf (bad (by simp[SM,e1,e2])) _)⟩
     |true=>
      rw[e2]at h2;cases e3:wi x.sp 0 200 with
      |false=>
       rw[e3]at h3;simp[h27,ah,aa,ai,Qm,bX,Qa,o7,e1,e2,e3,iI,oc];exact⟨h1,h2,h3,Bc _ _ _ rfl (Vy _) Uz (Idle.bool _) (rf (bad (by simp[SM,e1,e2,e3])) _)⟩
      |true=>
       rw[e3]at h3;cases e4:wi x.ra 0 3 with
       |false=>
        rw[e4]at h4;simp[h27,ah,aa,ai,Qm,bX,Qa,o7,e1,e2,e3,e4,iI,oc];exact⟨h1,h2,h3,h4,Bc _ _ _ rfl (Vy _) Uz (Idle.bool _) (rf (bad (by simp[SM,e1,e2,e3,e4])) _)⟩
       |true=>
        rw[e4]at h4;have bV:SM x=true:=by simp[SM,e1,e2,e3,e4]
        rw[bV,zzdy]at fM;simp[h27,ah,aa,ai,Qm,bX,Qa,o7,e1,e2,e3,e4,iI,hw,hkf];refine⟨h1,h2,h3,h4,aQ,⟨i+1,bx++[Qm x],zd,zE,fM,?_⟩,zE⟩
        ·simp only[bz];simp[Qm,bX,Qa]
   have bP:¬(i:Int)<(p.aM.length:Int):=zE
   rw[zzam bu]at fM;have lQ:p.aM.take i=p.aM:=zzau bu;simp only[lQ];have fM:xD p.aM=true:=by rw[<- fM];rfl
   obtain⟨g1,g2⟩:=al1 p.fi p.aM 0;cases hf:Xk p.fi p.aM with
   |none=>
    have g:=g1 hf;simp[h27,bP,iI,oc,bX,Qa,g];exact Bc _ _ _ rfl (Vy _) Uz (Idle.bool _) (rf (by simp[SN,gM,hf]) _)
   |some x=>
    obtain⟨n,g⟩:=g2 x hf;simp[h27,bP,iI,oc,bX,Qa,g,Qm];by_cases h5:x.ki=5
    ·simp only[h5];exact Bc _ _ _ rfl (Vy _) Uz (Idle.bool _) (VZ (by simp[SN,gM,hf,h0,ha,fM,h5]))
    have h5':(x.ki==5)=false:=by simpa using h5
    rw[h5'];exact Bc _ _ _ rfl (Vy _) Uz (Idle.bool _) (rf (by simp[SN,gM,hf,h5]) _)
 have zx:(4000:Int)<(p.aM.length:Int):=zE
 simp[EC,oc,bX,Qa,h0,zx,o7];exact Bc _ _ _ rfl Uz Uz (Idle.bool _) (rf (by simp[SN,h0]) [])
def Db(x:Bk):Bool:=decide (0<=x.fr)&&(decide (x.fr<x.to)&&(decide (x.to<=x.un)&&decide (x.un<=100000000)))
def kindOf(p:Pl)(id:Int):Int:=match Xk id p.aM with
 |some y=>y.ki
 |none=>0
def YA(p:Pl)(x:Bk):Bool:=decide (kindOf p x.it=2)&&(wi x.re 0 (p.rg-1)&&(Db x&&wi x.pr 0 1000000000))
def Q2(p:Pl):List Bk->Bool
 |[]=>true
 |x::r=>YA p x&&Q2 p r
def ji(p:Pl):Bool:=decide (p.bks.length<=2000)&&(Kt 1 1000000 none (p.bks.map fun x=>x.id)&&Q2 p p.bks)
def Dc(p:Pl)(id:Int):∃r,Xh [id] (mI p.aM) 0=r/\((∃n x,Xk id p.aM=some x/\r=some (n,.agg (Qm x)))\/(Xk id p.aM=none/\r=none)):=by
 obtain⟨g1,g2⟩:=al1 id p.aM 0;cases hf:Xk id p.aM with
 |none=>exact⟨_,rfl,.inr ⟨rfl,g1 hf⟩⟩
 |some x=>
  obtain⟨n,g⟩:=g2 x hf;exact⟨_,rfl,.inl ⟨n,x,rfl,g⟩⟩
def Q3(p:Pl):UV:=fun _ f l=>
 if f=206 then .bool (Kt 1 1000000 none (p.bks.map fun x=>x.id))else(match l with|[.int _ n,.int _ lo,.int _ up]=>.bool (wi n lo up)|_=>.junk)
def aeI(p:Pl)(hl:p.bks.length<=8796093022208)(N5:1<=p.rg/\p.rg<=8)(Y:YT)(K:So)(VZ:ji p=true->K (.bool true) (bX p (mI p.aM) (mK p.bks) []))(rf:ji p=false->∀kB,K (.bool false) (bX p (mI p.aM) kB [])):
  aB Tryz.prog aD Y 155 [.ptr 3 0] (bX p (mI p.aM) [] []) K:=by
 have k90:=QZ p.bks 1 1000000 hl;refine sO ?_;refine Xo acU (Q3 p) zd ?_;by_cases h0:p.bks.length<=2000
 ·have zx:¬(2000:Int)<(p.bks.length:Int):=zE
  cases ha:Kt 1 1000000 none (p.bks.map fun x=>x.id)with
  |false=>
   rw[ha]at k90;simp[ED,fD,bX,Qa,h0,zx,Q3,ha];exact⟨k90,Bc _ _ _ rfl (Vy _) Uz (Idle.bool _) (rf (by simp[ji,ha]) [])⟩
  |true=>
   rw[ha]at k90;have hp:=(kH ha).1;simp[ED,bX,Qa,h0,zx,Q3,ha];refine⟨k90,?_⟩;refine Qj ew (aiY 28 p.bks.length p (fun _=>mI p.aM) (fun i=>mK (p.bks.take i)) fun i=>Q2 p (p.bks.drop i)=Q2 p p.bks) (fun f _=>p.bks.length-(numOf (f 28)).toNat) ?_ ?_
   ·exact⟨0,[],zd,zE,zd,by simp[bX,Qa,mK]⟩
   rintro f m ⟨i,bx,h28,hi,fM,rfl⟩;rcases zzaa i p.bks.length with ah|bu
   ·obtain⟨x,hx⟩:=aV ah;have ai:Qi (p.bks.map Xi) i=Xi x:=Qw (by simp[hx]);have aa:(i:Int)<(p.bks.length:Int):=zE
    have hw:=bO i zE;have qX:IntKind.i64.wrap (p.rg-1)=p.rg-1:=by rw[Ql]<;>omega
    have hkf:Xh [x.id] (mK (p.bks.take i)) 0=none:=xC (key:=fun x=>x.id) (row:=fun x=>.agg (Xi x)) hp hx;have bz:=aeG hx;rw[Zc hx,Q2]at fM;have h1:=Yy x.re 0 (p.rg-1);have h2:=Yy x.pr 0 1000000000;have bad:YA p x=false->ji p=false:=fun h=>by rw[h]at fM;simp[ji,<- fM]
    obtain⟨r,hr,Q4⟩:=Dc p x.it;by_cases dP:kindOf p x.it=2
    ·obtain⟨n,y,hf,rfl⟩|⟨hf,rfl⟩:=Q4
     ·have hy:y.ki=2:=by simpa[kindOf,hf]using dP
      cases e1:wi x.re 0 (p.rg-1)with
      |false=>
       rw[e1]at h1;simp[h28,ah,aa,ai,Xi,bX,Qa,Q3,hr,Qm,hy,qX,e1,ew,fD];exact⟨h1,Bc _ _ _ rfl (Vy _) (Qau _) (Idle.bool _) (rf (bad (by simp[YA,e1])) _)⟩
      |true=>
       rw[e1]at h1;cases e2:Db x with
       |false=>
        have e2':¬(0<=x.fr)\/(0<=x.fr/\¬x.fr<x.to)\/(0<=x.fr/\x.fr<x.to/\¬x.to<=x.un)\/(0<=x.fr/\x.fr<x.to/\x.to<=x.un/\¬x.un<=100000000):=by
         simp[Db]at e2;omega
        obtain c1|⟨c1,c2⟩|⟨c1,c2,c3⟩|⟨c1,c2,c3,c4⟩:=e2'
        ·simp[h28,ah,aa,ai,Xi,bX,Qa,Q3,hr,Qm,hy,qX,e1,c1,ew,fD];exact⟨h1,Bc _ _ _ rfl (Vy _) (Qau _) (Idle.bool _) (rf (bad (by simp[YA,e1,e2])) _)⟩
        ·simp[h28,ah,aa,ai,Xi,bX,Qa,Q3,hr,Qm,hy,qX,e1,c1,c2,ew,fD];exact⟨h1,Bc _ _ _ rfl (Vy _) (Qau _) (Idle.bool _) (rf (bad (by simp[YA,e1,e2])) _)⟩
        ·simp[h28,ah,aa,ai,Xi,bX,Qa,Q3,hr,Qm,hy,qX,e1,c1,c2,c3,ew,fD];exact⟨h1,Bc _ _ _ rfl (Vy _) (Qau _) (Idle.bool _) (rf (bad (by simp[YA,e1,e2])) _)⟩
        simp[h28,ah,aa,ai,Xi,bX,Qa,Q3,hr,Qm,hy,qX,e1,c1,c2,c3,c4,ew,fD];exact⟨h1,Bc _ _ _ rfl (Vy _) (Qau _) (Idle.bool _) (rf (bad (by simp[YA,e1,e2])) _)⟩
       |true=>
        have e2':0<=x.fr/\x.fr<x.to/\x.to<=x.un/\x.un<=100000000:=by
         simp[Db]at e2;omega
        obtain⟨c1,c2,c3,c4⟩:=e2';cases e3:wi x.pr 0 1000000000 with
        |false=>
         rw[e3]at h2;simp[h28,ah,aa,ai,Xi,bX,Qa,Q3,hr,Qm,hy,qX,e1,c1,c2,c3,c4,e3,ew,fD];exact⟨h1,h2,Bc _ _ _ rfl (Vy _) (Qau _) (Idle.bool _) (rf (bad (by simp[YA,e1,e2,e3])) _)⟩
        |true=>
         rw[e3]at h2;have bV:YA p x=true:=by simp[YA,dP,e1,e2,e3]
         rw[bV,zzdy]at fM;simp[h28,ah,aa,ai,Xi,bX,Qa,Q3,hr,Qm,hy,qX,e1,c1,c2,c3,c4,e3,ew,fD,hw,hkf];refine⟨h1,h2,aQ,⟨i+1,bx++[Xi x],zd,zE,fM,?_⟩,zE⟩
         ·simp only[bz];simp[Xi,bX,Qa]
     simp[kindOf,hf]at dP
    have hb:=bad (by simp[YA,dP]);obtain⟨n,y,hf,rfl⟩|⟨hf,rfl⟩:=Q4
    ·have hy:¬y.ki=2:=by simpa[kindOf,hf]using dP
     simp[h28,ah,aa,ai,Xi,bX,Qa,Q3,hr,Qm,hy,qX,ew,fD];exact Bc _ _ _ rfl (Vy _) (Qau _) (Idle.bool _) (rf hb _)
    simp[h28,ah,aa,ai,Xi,bX,Qa,Q3,hr,Qm,qX,ew,fD];exact Bc _ _ _ rfl (Vy _) (Qau _) (Idle.bool _) (rf hb _)
   have bP:¬(i:Int)<(p.bks.length:Int):=zE
   rw[zzam bu]at fM;have lQ:p.bks.take i=p.bks:=zzau bu;simp only[lQ];have fM:Q2 p p.bks=true:=by rw[<- fM];rfl
   simp[h28,bP,ew,fD,bX,Qa];exact Bc _ _ _ rfl (Vy _) (Qau _) (Idle.bool _) (VZ (by simp[ji,h0,ha,fM]))
 have zx:(2000:Int)<(p.bks.length:Int):=zE
 simp[ED,fD,bX,Qa,h0,zx,Q3];exact Bc _ _ _ rfl (Vy _) Uz (Idle.bool _) (rf (by simp[ji,h0]) [])
def RdK(m:AM)(K:So)(r:AV)(m':AM):Prop:=∃ex,m'={m with boxes:=m.boxes++ex}/\Idle r/\K r m
def o8{m:AM}{K:So}{r:AV}{m':AM}(ex:T5)(hm:m'={m with boxes:=m.boxes++ex})(hi:Idle r)(hK:K r m):RdK m K r m':=⟨ex,hm,hi,hK⟩
def Ky{f:FuncId}{xs:P2}{m:AM}{Y:YT}{K:So}(h:aB Tryz.prog aD Y f xs m (RdK m K)):aB Tryz.prog aD Y f xs m K:=by
 refine aB.mono (aB.read (K:=fun r=>K r m) (aB.mono h fun r m' h=>h)) ?_;rintro r m' ⟨rfl,h⟩;exact h
def o9:∀{l:List It},xD l=true->∀x∈l,SM x=true
 |y::r,h,x,hx=>by
  rw[xD,zzac]at h;rcases zzao.1 hx with rfl|hx
  ·exact h.1
  exact o9 h.2 x hx
def YB{x:It}(h:SM x=true):(1<=x.ki/\x.ki<=5)/\(1<=x.fr/\x.fr<=100000000)/\(0<=x.sp/\x.sp<=200)/\(0<=x.ra/\x.ra<=3):=by
 simp only[SM,wi,zzac,am]at h;exact h
def jj(p:Pl)(e:En):Bool:=match Xk e.it p.aM with
 |none=>false
 |some y=>if y.ki=5 then false else if wi e.fr 1 y.fr=false then false else if y.ki≠4/\e.fr≠y.fr then false else decide (0<=e.ea)&&(decide (e.ea<=e.la)&&decide (e.la<=p.ln-e.fr))
def jk:UV:=fun _ f l=>match l with|[.int _ n,.int _ lo,.int _ up]=>.bool (wi n lo up)|_=>.junk
def al2(p:Pl)(e:En)(kB:List (Pi×AV))(bx:T5)(YC:xD p.aM=true)(dQ:1<=p.ln/\p.ln<=100000000)(Y:YT)(K:So)(hK:∀b,jj p e=b->K (.bool b) (bX p (mI p.aM) kB bx)):
  aB Tryz.prog aD Y 208 [.ptr 3 0,.agg (Qd e)] (bX p (mI p.aM) kB bx) K:=by
 refine Ky (Xo adz jk zd ?_);obtain⟨r,hr,Q4⟩:=Dc p e.it;simp[ah4,ah5,bX,Qa,Qd];refine Yz ?_;obtain⟨n,y,hf,rfl⟩|⟨hf,rfl⟩:=Q4
 ·obtain⟨g1,g2,g3,g4⟩:=YB (o9 YC y (xE hf).1);have h1:=Yy e.fr 1 y.fr;by_cases c1:y.ki=5
  ·simp[hr,Qm,c1];exact o8 _ rfl (Idle.bool _) (hK _ (by simp[jj,hf,c1]))
  cases c2:wi e.fr 1 y.fr with
  |false=>
   rw[c2]at h1;simp[hr,Qm,c1,c2,jk];exact⟨h1,o8 _ rfl (Idle.bool _) (hK _ (by simp[jj,hf,c1,c2]))⟩
  |true=>
   rw[c2]at h1;have c2':1<=e.fr/\e.fr<=y.fr:=by simpa[wi]using c2
   have hw:IntKind.i64.wrap (p.ln-e.fr)=p.ln-e.fr:=by rw[Ql]<;>omega
   by_cases c3:y.ki≠4/\e.fr≠y.fr
   ·simp[hr,Qm,c1,c2,jk,c3.1,c3.2];exact⟨h1,o8 _ rfl (Idle.bool _) (hK _ (by simp[jj,hf,c1,c2,c3.1,c3.2]))⟩
   have fin:∀b,(decide (0<=e.ea)&&(decide (e.ea<=e.la)&&decide (e.la<=p.ln-e.fr)))=b->jj p e=b:=fun b hb=>by
    rw[jj,hf];simp only;rw[ab c1,ab (by simp[c2]),ab c3];exact hb
   have c3':y.ki=4\/(¬y.ki=4/\e.fr=y.fr):=by
    by_cases h:y.ki=4
    ·exact .inl h
    exact .inr ⟨h,by by_cases h':e.fr=y.fr;exact h';exact absurd ⟨h,h'⟩ c3⟩
   by_cases d1:0<=e.ea
   ·by_cases d2:e.ea<=e.la
    ·by_cases d3:e.la<=p.ln-e.fr
     ·obtain c|⟨c,c'⟩:=c3'
      ·simp[hr,Qm,c1,c2,jk,c,hw,d1,d2,d3];exact⟨h1,o8 _ rfl (Idle.bool _) (hK _ (fin _ (by simp[d1,d2,d3])))⟩
      rw[<- c']at c2 h1;simp[hr,Qm,c1,c2,jk,c,<- c',hw,d1,d2,d3];exact⟨h1,o8 _ rfl (Idle.bool _) (hK _ (fin _ (by simp[d1,d2,d3])))⟩
     obtain c|⟨c,c'⟩:=c3'
     ·simp[hr,Qm,c1,c2,jk,c,hw,d1,d2,d3];exact⟨h1,o8 _ rfl (Idle.bool _) (hK _ (fin _ (by simp[d1,d2,d3])))⟩
     rw[<- c']at c2 h1;simp[hr,Qm,c1,c2,jk,c,<- c',hw,d1,d2,d3];exact⟨h1,o8 _ rfl (Idle.bool _) (hK _ (fin _ (by simp[d1,d2,d3])))⟩
    obtain c|⟨c,c'⟩:=c3'
    ·simp[hr,Qm,c1,c2,jk,c,d1,d2];exact⟨h1,o8 _ rfl (Idle.bool _) (hK _ (fin _ (by simp[d1,d2])))⟩
    rw[<- c']at c2 h1;simp[hr,Qm,c1,c2,jk,c,<- c',d1,d2];exact⟨h1,o8 _ rfl (Idle.bool _) (hK _ (fin _ (by simp[d1,d2])))⟩
   obtain c|⟨c,c'⟩:=c3'
   ·simp[hr,Qm,c1,c2,jk,c,d1];exact⟨h1,o8 _ rfl (Idle.bool _) (hK _ (fin _ (by simp[d1])))⟩
   rw[<- c']at c2 h1;simp[hr,Qm,c1,c2,jk,c,<- c',d1];exact⟨h1,o8 _ rfl (Idle.bool _) (hK _ (fin _ (by simp[d1])))⟩
 simp[hr];exact o8 _ rfl (Idle.bool _) (hK _ (by simp[jj,hf]))
def zS(p:Pl)(e:En)(a:Sp):Bool:=match Xk a.2 p.aM with
 |none=>false
 |some y=>decide (y.fr=e.fr)&&(decide (y.ki≠5)&&decide (y.ki≠4))
def N6(p:Pl)(e:En)(kB:List (Pi×AV))(b0:T5):AM:=bX p (mI p.aM) kB (b0++[[.ptr 3 0],Qd e])
def rdA{p:Pl}{e:En}{kB:List (Pi×AV)}{b0:T5}{K:So}{r:AV}{m':AM}(ex:T5)(hm:m'=bX p (mI p.aM) kB (b0++([.ptr 3 0]::Qd e::ex)))(hi:Idle r)(hK:K r (N6 p e kB b0)):RdK (N6 p e kB b0) K r m':=
 o8 ex (by rw[hm];simp[N6,bX]) hi hK
def YD(p:Pl)(e:En)(a:Sp)(kB:List (Pi×AV))(b0:T5)(Y:YT)(K:So)(hK:K (.bool (!zS p e a)) (N6 p e kB b0)):
  aB Tryz.prog aD Y 240 [.agg (Qe a),.ptr (b0.length+4) 0,.ptr (b0.length+5) 0] (N6 p e kB b0) K:=by
 refine Ky (Xo adQ (fun _ _ _=>.junk) zd ?_);obtain⟨r,hr,Q4⟩:=Dc p a.2;simp[aii,aij,N6,bX,Qa,Qd,Qe];refine Yz ?_;obtain⟨n,y,hf,rfl⟩|⟨hf,rfl⟩:=Q4
 ·by_cases c1:y.fr=e.fr
  ·by_cases c2:y.ki=5
   ·have:(!zS p e a)=true:=by simp[zS,hf,c1,c2]
    rw[this]at hK;simp[hr,Qm,c1,c2];exact rdA _ rfl (Idle.bool _) hK
   by_cases c3:y.ki=4
   ·have:(!zS p e a)=true:=by simp[zS,hf,c1,c2,c3]
    rw[this]at hK;simp[hr,Qm,c1,c2,c3];exact rdA _ rfl (Idle.bool _) hK
   have:(!zS p e a)=false:=by simp[zS,hf,c1,c2,c3]
   rw[this]at hK;have h':(y.ki==5||y.ki==4)=false:=by simp[c2,c3]
   simp[hr,Qm,c1,c2,c3];rw[h'];exact rdA _ rfl (Idle.bool _) hK
  have:(!zS p e a)=true:=by simp[zS,hf,c1]
  rw[this]at hK;have h':(y.fr !=e.fr||y.ki==5||y.ki==4)=true:=by simp[c1]
  simp[hr,Qm,c1];rw[h'];exact rdA _ rfl (Idle.bool _) hK
 have:(!zS p e a)=true:=by simp[zS,hf]
 rw[this]at hK;simp[hr];exact rdA _ rfl (Idle.bool _) hK
def jm{α:Type}(b:α->Bool):List α->Nat->Int
 |[],_=> -1
 |x::r,i=>if b x=true then(i:Int)else jm b r (i+1)
def xF{α:Type}(b:α->Bool):∀(l:List α)(i:Nat),(0<=jm b l i<->l.any b=true)
 |[],i=>by simp[jm]
 |x::r,i=>by
  rw[jm];cases h:b x with
  |true=>simp[h]
  |false=>simp[h,xF b r (i+1)]
def asl(s n:Nat)(m0:AM)(R:Nat->Prop)(f:Nat->AV)(m:AM):Prop:=∃(i:Nat),f s=I i/\i<=n/\R i/\m=m0
def YF(p:Pl)(e:En)(L:List Sp)(hl:L.length<=8796093022208)(kB:List (Pi×AV))(b0:T5)(Y:YT)(K:So)(hK:K (I (jm (fun a=>!zS p e a) L 0)) (N6 p e kB b0)):
  aB Tryz.prog aD Y 262 [.sl .ro (L.map Qe),.fn 240 [] [.ptr (b0.length+4) 0,.ptr (b0.length+5) 0]] (N6 p e kB b0) K:=by
 obtain⟨T,hT⟩:∃T,jm (fun a=>!zS p e a) L 0=T:=⟨_,rfl⟩;rw[hT]at hK;refine Xo adY (fun _ _ _=>.gd false .junk) zd ?_;simp[aiy];refine Qj vD (asl 8 L.length (N6 p e kB b0) fun i=>jm (fun a=>!zS p e a) (L.drop i) i=T) (fun f _=>L.length-(numOf (f 8)).toNat) ?_ ?_
 ·exact⟨0,zd,zE,Nm hT,rfl⟩
 rintro f m ⟨i,h8,hi,hx,rfl⟩;rcases zzaa i L.length with ah|bu
 ·obtain⟨a,ha⟩:=aV ah;have ai:=Zy ha;have aa:(i:Int)<(L.length:Int):=zE
  have hw:=bO i zE;rw[Zc ha,jm]at hx;simp[h8,ah,aa,ai,vD,EM];refine YD p e a kB b0 Y _ ?_;cases hb:zS p e a with
  |false=>
   rw[hb]at hx;simp at hx;simp[h8,vD,EM,hx];exact hK
  |true=>
   rw[hb]at hx;simp at hx;simp[h8,vD,EM,hw];refine⟨aQ,⟨i+1,zd,zE,hx,rfl⟩,zE⟩
 have bP:¬(i:Int)<(L.length:Int):=zE
 rw[zzam bu,jm]at hx;simp[h8,bP,zzbm.2 bu,vD,EM,hx];exact hK
def KR(p:Pl)(e:En)(L:List Sp)(hl:L.length<=8796093022208)(kB:List (Pi×AV))(b0:T5)(Y:YT)(K:So)(hK:K (.bool (L.any fun a=>!zS p e a)) (N6 p e kB b0)):
  aB Tryz.prog aD Y 241 [.sl .ro (L.map Qe),.fn 240 [] [.ptr (b0.length+4) 0,.ptr (b0.length+5) 0]] (N6 p e kB b0) K:=by
 have al3:=xF (fun a=>!zS p e a) L 0;refine Xo adR (fun _ _ _=>.gd false .junk) zd ?_;simp[aik];refine YF p e L hl kB b0 Y _ ?_
 have:decide (0<=jm (fun a=>!zS p e a) L 0)=L.any fun a=>!zS p e a:=by
  rw[zzcr,am];exact al3
 simp[ail,this];simpa using hK
def lV(p:Pl)(e:En):Bool:=Kt 1 (p.rg-1) none (e.al.map fun x=>x.1)&&(!(decide (kindOf p e.it=4)&&decide (e.al≠[]))&&!(e.al.any fun a=>!zS p e a))
def Be(p:Pl)(e:En):UV:=fun _ f _=>if f=238 then .bool (Kt 1 (p.rg-1) none (e.al.map fun x=>x.1))else .gd false .junk
def al4(p:Pl)(e:En)(hl:e.al.length<=8796093022208)(N5:1<=p.rg/\p.rg<=8)(kB:List (Pi×AV))(bx:T5)(Y:YT)(K:So)(hK:∀b,lV p e=b->K (.bool b) (bX p (mI p.aM) kB bx)):
  aB Tryz.prog aD Y 209 [.ptr 3 0,.agg (Qd e)] (bX p (mI p.aM) kB bx) K:=by
 have Gd:=Q0 e.al 1 (p.rg-1) hl;refine Ky (Xo adA (Be p e) zd ?_);obtain⟨r,hr,Q4⟩:=Dc p e.it;have qX:IntKind.i64.wrap (p.rg-1)=p.rg-1:=by rw[Ql]<;>omega
 cases h1:Kt 1 (p.rg-1) none (e.al.map fun x=>x.1)with
 |false=>
  rw[h1]at Gd;simp[Au,oe,bX,Qa,Qd,qX,Be,h1];exact⟨Gd,o8 _ rfl (Idle.bool _) (hK _ (by simp[lV,h1]))⟩
 |true=>
  rw[h1]at Gd;have tl:∀(E:QQ),True:=fun _=>trivial;have SE:kindOf p e.it=4->e.al≠[]->lV p e=false:=fun h h'=>by simp[lV,h,h']
  have eX:¬(kindOf p e.it=4/\e.al≠[])->lV p e=!(e.al.any fun a=>!zS p e a):=fun h=>by
   have:(decide (kindOf p e.it=4)&&decide (e.al≠[]))=false:=by
    rw[Bool.eq_false_iff];intro h';simp at h';exact h h'
   rw[lV,h1,this];rfl
  obtain⟨n,y,hf,rfl⟩|⟨hf,rfl⟩:=Q4
  ·have hkd:kindOf p e.it=y.ki:=by simp[kindOf,hf]
   by_cases c1:y.ki=4
   ·by_cases c2:e.al=[]
    ·have P0:=eX (by simp[c2]);have c2l:¬0<e.al.length:=by simp[c2]
     simp[Au,oe,bX,Qa,Qd,qX,Be,h1,hr,Qm,c1,c2];rw[c2]at Gd;refine⟨Gd,?_⟩;have:=KR p e [] zd kB bx Y;simp only[N6,bX,Qa,Qd,c2]at this;refine this _ ?_;simp[oe];exact o8 _ rfl (Idle.bool _) (hK _ (by rw[P0,c2];rfl))
    have c2l:0<e.al.length:=zzdf.2 c2;simp[Au,oe,bX,Qa,Qd,qX,Be,h1,hr,Qm,c1,c2l];exact⟨Gd,o8 _ rfl (Idle.bool _) (hK _ (SE (by rw[hkd,c1]) c2))⟩
   have P0:=eX (by rw[hkd];exact fun h=>c1 h.1);simp[Au,oe,bX,Qa,Qd,qX,Be,h1,hr,Qm,c1];refine⟨Gd,?_⟩;have:=KR p e e.al hl kB bx Y;simp only[N6,bX,Qa,Qd]at this;refine this _ ?_;simp[oe];exact o8 _ rfl (Idle.bool _) (hK _ (by rw[P0]))
  have P0:=eX (by simp[kindOf,hf]);simp[Au,oe,bX,Qa,Qd,qX,Be,h1,hr];refine⟨Gd,?_⟩;have:=KR p e e.al hl kB bx Y;simp only[N6,bX,Qa,Qd]at this;refine this _ ?_;simp[oe];exact o8 _ rfl (Idle.bool _) (hK _ (by rw[P0]))
def xG(x a:Sp):Bool:=x.1==a.1&&x.2==a.2
def YG(x:Sp)(L:List Sp):L.any (xG x)=decide (x∈L):=by
 rw[zzcr];simp only[zzbt,am,xG,zzac,beq_iff_eq];constructor
 ·rintro⟨a,h,h1,h2⟩;have:x=a:=Prod.ext h1 h2;rw[this];exact h
 exact fun h=>⟨x,h,rfl,rfl⟩
def YH(x:Sp)(L:List Sp)(hl:L.length<=8796093022208):Pure Tryz.prog aD 263 [.sl .ro (L.map Qe),.agg (Qe x)] (I (jm (xG x) L 0)):=by
 obtain⟨T,hT⟩:∃T,jm (xG x) L 0=T:=⟨_,rfl⟩;rw[hT];refine Qp adZ (fun _ _ _=>.junk) zd ?_;simp[aiz,Qe];refine Qj Ci (asl 8 L.length ⟨[[I x.1,I x.2]],[],fun _=>.gone,0⟩ fun i=>jm (xG x) (L.drop i) i=T) (fun f _=>L.length-(numOf (f 8)).toNat) ?_ ?_
 ·exact⟨0,zd,zE,Nm hT,rfl⟩
 rintro f m ⟨i,h8,hi,hx,rfl⟩;rcases zzaa i L.length with ah|bu
 ·obtain⟨a,ha⟩:=aV ah;have ai:Qi (L.map Qe) i=Qe a:=Zy ha;have aiZ:Qi (L.map fun x=>[I x.1,I x.2]) i=Qe a:=ai;have aa:(i:Int)<(L.length:Int):=zE
  have hw:=bO i zE;rw[Zc ha,jm]at hx;cases hb:xG x a with
  |false=>
   rw[hb]at hx;simp at hx;simp only[xG]at hb;simp[h8,ah,aa,ai,aiZ,Ci,Np,hw,Qe,hb];refine⟨aQ,⟨i+1,zd,zE,hx,rfl⟩,zE⟩
  |true=>
   rw[hb]at hx;simp at hx;simp only[xG]at hb;subst hx;simp[h8,ah,aa,ai,aiZ,Ci,Np,Qe,hb]
 have bP:¬(i:Int)<(L.length:Int):=zE
 rw[zzam bu,jm]at hx;simp[h8,bP,zzbm.2 bu,Ci,Np,hx]
def Ge(x:Sp)(L:List Sp)(hl:L.length<=8796093022208):Pure Tryz.prog aD 242 [.sl .ro (L.map Qe),.agg (Qe x)] (.bool (decide (x∈L))):=by
 have k:=YH x L hl;have al3:=xF (xG x) L 0;refine Qp adS (fun _ _ _=>I (jm (xG x) L 0)) zd ?_
 have:decide (0<=jm (xG x) L 0)=decide (x∈L):=by
  rw[<- YG,zzcr,am];exact al3
 simp[aim,ain,this,Qe];simpa[Qe]using k
def al5(p:Pl)(id:Int):∃r,Xh [id] (mK p.bks) 0=r/\((∃n x,Gb id p.bks=some x/\r=some (n,.agg (Xi x)))\/(Gb id p.bks=none/\r=none)):=by
 obtain⟨g1,g2⟩:=asj id p.bks 0;cases hf:Gb id p.bks with
 |none=>exact⟨_,rfl,.inr ⟨rfl,g1 hf⟩⟩
 |some x=>
  obtain⟨n,g⟩:=g2 x hf;exact⟨_,rfl,.inl ⟨n,x,rfl,g⟩⟩
def Q5(p:Pl)(e:En):Bool:=if e.bo=0 then true else match Gb e.bo p.bks with
 |none=>false
 |some x=>if x.re=0 then decide (x.it=e.it)else decide ((x.re,x.it)∈e.al)
def Q6(p:Pl)(e:En)(hl:e.al.length<=8796093022208)(kI:List (Pi×AV))(bx:T5)(Y:YT)(K:So)(hK:∀b,Q5 p e=b->K (.bool b) (bX p kI (mK p.bks) bx)):
  aB Tryz.prog aD Y 210 [.ptr 3 0,.agg (Qd e)] (bX p kI (mK p.bks) bx) K:=by
 obtain⟨r,hr,Q4⟩:=al5 p e.bo;by_cases h0:e.bo=0
 ·refine Ky (Xo Cf (fun _ _ _=>.junk) zd ?_);simp[Nf,Ng,bX,Qa,Qd,h0];exact o8 _ rfl (Idle.bool _) (hK _ (by simp[Q5,h0]))
 obtain⟨n,x,hf,rfl⟩|⟨hf,rfl⟩:=Q4
 ·have k:=Ge (x.re,x.it) e.al hl;refine Ky (Xo Cf (fun _ _ _=>.bool (decide ((x.re,x.it)∈e.al))) zd ?_);simp[Nf,Ng,bX,Qa,Qd,h0];refine Yz ?_;by_cases c1:x.re=0
  ·simp[hr,Xi,c1];exact o8 _ rfl (Idle.bool _) (hK _ (by simp only[Q5,h0,hf,c1];rw[zzcr];simp))
  simp[hr,Xi,c1];refine⟨by simpa[Qe]using k,o8 _ rfl (Idle.bool _) (hK _ (by simp[Q5,h0,hf,c1]))⟩
 refine Ky (Xo Cf (fun _ _ _=>.junk) zd ?_);simp[Nf,Ng,bX,Qa,Qd,h0];refine Yz ?_;simp[hr];exact o8 _ rfl (Idle.bool _) (hK _ (by simp[Q5,h0,hf]))
def xH(p:Pl)(seen:Pi)(e:En):Bool:=wi e.id 1 1000000&&(!decide (e.id∈seen)&&(jj p e&&(lV p e&&Q5 p e)))
def zT(p:Pl):Pi->List En->Bool
 |_,[]=>true
 |seen,e::r=>xH p seen e&&zT p (seen++[e.id]) r
def sP(p:Pl):Bool:=decide (p.ens.length<=4000)&&zT p [] p.ens
def mS(l:Pi):List (Pi×AV):=l.map fun n=>([n],.bool true)
def asm(k:Int):∀(l:Pi)(i:Nat),(k∈l->∃n,Xh [k] (mS l) i=some (n,.bool true))/\(¬k∈l->Xh [k] (mS l) i=none)
 |[],i=>⟨fun h=>(by cases h),fun _=>rfl⟩
 |x::r,i=>by
  have ih:=asm k r (i+1);simp only[mS,zzar,Xh]at ih |-
  by_cases h:x=k
  ·subst h;simp
  have h':¬k=x:=fun e=>h e.symm;rw[ab (by intro e;cases e;exact h rfl)];simp only[zzao,h',false_or];exact ih
def xI:UV:=fun _ f l=>if f=204 then(match l with|[.int _ n,.int _ lo,.int _ up]=>.bool (wi n lo up)|_=>.junk)else .gd false .junk
def al6(p:Pl)(f:Nat->AV)(m:AM):Prop:=∃(i:Nat)(bx:T5),f 20=I i/\i<=p.ens.length/\zT p ((p.ens.take i).map fun e=>e.id) (p.ens.drop i)=zT p [] p.ens/\f 3=.mp 4/\m=bX p (mI p.aM) (mK p.bks) ([.aJ 0 (mS ((p.ens.take i).map fun e=>e.id))]::bx)
def Qdc{p:Pl}{i:Nat}{e:En}(h:p.ens[i]?=some e):Qi (p.ens.map Qd) i=Qd e:=Qw (by simp[h])
def Q7(p:Pl)(hl:p.ens.length<=1000000000)(fM:∀e∈p.ens,e.al.length<=8796093022208)(YC:xD p.aM=true)(N5:1<=p.rg/\p.rg<=8)(dQ:1<=p.ln/\p.ln<=100000000)(Y:YT)(K:So)(hK:∀b,sP p=b->K (.bool b) (bX p (mI p.aM) (mK p.bks) [])):
  aB Tryz.prog aD Y 156 [.ptr 3 0] (bX p (mI p.aM) (mK p.bks) []) K:=by
 refine Ky (Xo acV xI zd ?_);by_cases h0:p.ens.length<=4000
 ·have zx:¬(4000:Int)<(p.ens.length:Int):=zE
  simp[MX,bX,Qa,h0,zx];refine Qj qu (al6 p) (fun f _=>p.ens.length-(numOf (f 20)).toNat) ?_ ?_
  ·exact⟨0,[],zd,zE,zd,zd,by simp[bX,Qa,mS]⟩
  rintro f m ⟨i,bx,h20,hi,ha,h3,rfl⟩;rcases zzaa i p.ens.length with ah|bu
  ·obtain⟨e,he⟩:=aV ah;have ai:=Qdc he;have aa:(i:Int)<(p.ens.length:Int):=zE
   have hw:=bO i zE;have bz:(p.ens.take (i+1)).map (fun e=>e.id)=(p.ens.take i).map (fun e=>e.id)++[e.id]:=by simp[zzay,he]
   rw[Zc he,zT,<- bz]at ha;obtain⟨S,hS⟩:∃S,(p.ens.take i).map (fun e=>e.id)=S:=⟨_,rfl⟩;rw[hS]at ha bz |-
   have h1:=Yy e.id 1 1000000;have hae:=fM e (zzad he);obtain⟨s1,s2⟩:=asm e.id S 0;have bad:xH p S e=false->sP p=false:=fun h=>by rw[h]at ha;simp[sP,<- ha]
   cases e1:wi e.id 1 1000000 with
   |false=>
    rw[e1]at h1;simp[h20,h3,ah,aa,ai,Qd,bX,Qa,xI,e1,qu,r9];exact⟨h1,o8 _ rfl (Idle.bool _) (hK _ (bad (by simp[xH,e1])))⟩
   |true=>
    rw[e1]at h1;by_cases e2:e.id∈S
    ·obtain⟨n,s1⟩:=s1 e2;simp[h20,h3,ah,aa,ai,Qd,bX,Qa,xI,e1,s1,qu,r9];exact⟨h1,o8 _ rfl (Idle.bool _) (hK _ (bad (by simp[xH,e1,e2])))⟩
    have s2:=s2 e2;simp[h20,h3,ah,aa,ai,Qd,bX,Qa,xI,e1,s2,qu];refine⟨h1,al2 p e (mK p.bks) ([.aJ 0 (mS S)]::(bx++[Qd e])) YC dQ Y _ fun b hb=>?_⟩;cases b with
    |false=>
     simp[r9];exact o8 _ rfl (Idle.bool _) (hK _ (bad (by simp[xH,e1,e2,hb])))
    |true=>
     simp[bX,Qa,Qd,xI];refine al4 p e hae N5 (mK p.bks) ([.aJ 0 (mS S)]::(bx++[Qd e])) Y _ fun b fh=>?_;cases b with
     |false=>
      simp[r9];exact o8 _ rfl (Idle.bool _) (hK _ (bad (by simp[xH,e1,e2,hb,fh])))
     |true=>
      simp[bX,Qa,Qd,xI];refine Q6 p e hae (mI p.aM) ([.aJ 0 (mS S)]::(bx++[Qd e])) Y _ fun b hb3=>?_;cases b with
      |false=>
       simp[r9];exact o8 _ rfl (Idle.bool _) (hK _ (bad (by simp[xH,e1,e2,hb,fh,hb3])))
      |true=>
       have bV:xH p S e=true:=by simp[xH,e1,e2,hb,fh,hb3]
       rw[bV,zzdy]at ha;simp[h20,h3,bX,Qa,Qd,xI,s2,hw,qu];refine⟨aQ,⟨i+1,bx++[Qd e],zd,zE,ha,by simp[h3],?_⟩,zE⟩
       ·rw[bz];simp[bX,Qa,Qd,mS]
  have bP:¬(i:Int)<(p.ens.length:Int):=zE
  rw[zzam bu]at ha;have ha:zT p [] p.ens=true:=by rw[<- ha];rfl
  simp[h20,bP,zzbm.2 bu,qu,r9,bX,Qa];exact o8 _ rfl (Idle.bool _) (hK _ (by simp[sP,h0,ha]))
 have zx:(4000:Int)<(p.ens.length:Int):=zE
 simp[MX,r9,bX,Qa,h0,zx];exact o8 [] zd (Idle.bool _) (hK _ (by simp[sP,h0]))
def pe(p:Pl):Bool:=Jr p&&(SN p&&(ji p&&(sP p&&Qdk p)))
def pn(p:Pl):UV:=fun _ f _=>if f=153 then .bool (Jr p)else if f=157 then .bool (Qdk p)else .gd false .junk
def PlS(p:Pl):Prop:=p.sh.length<=1000000000/\p.aM.length<=1000000000/\p.ens.length<=1000000000/\p.bks.length<=8796093022208/\p.cls.length<=1000000000/\∀e∈p.ens,e.al.length<=8796093022208
def Ws(p:Pl)(h:PlS p):Pure Tryz.prog aD 95 [.agg (Qa p)] (.bool (pe p)):=by
 obtain⟨l1,l2,l3,l4,l5,l6⟩:=h;have k44:=aeB p l1;have k48:=Q1 p l5;refine Qp ala (pn p) zd ?_;cases e1:Jr p with
 |false=>
  rw[e1]at k44;simp[ak9,Pv,Qa,pn,pe,e1];simpa[Qa]using k44
 |true=>
  rw[e1]at k44
  have hs:(1<=p.rg/\p.rg<=8)/\(1<=p.ln/\p.ln<=100000000):=by
   simp[Jr,wi]at e1;omega
  simp[ak9,Qa,pn,pe,e1];refine⟨by simpa[Qa]using k44,?_⟩;refine aeH p l2 Y0 _ (fun e2=>?_) (fun e2 kI=>?_)
  ·simp[bX,Qa,pn,e2];refine aeI p l4 hs.1 Y0 _ (fun e3=>?_) (fun e3 kB=>?_)
   ·simp[bX,Qa,pn,e3]
    have YC:xD p.aM=true:=by
     simp[SN]at e2;exact e2.2.2.1
    refine Q7 p l3 l6 YC hs.1 hs.2 Y0 _ fun b e4=>?_;cases b with
    |false=>simp[Pv,bX,Qa,pn,e4]
    |true=>
     simp[Pv,bX,Qa,pn,e4];simpa[Qa]using k48
   simp[Pv,bX,Qa,pn,e3]
  simp[Pv,bX,Qa,pn,e2]
