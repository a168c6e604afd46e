import Derived.Test.YtfliagpjbbkijaaGreatDoorVBMK
set_option linter.all false
set_option maxRecDepth 100000
set_option maxHeartbeats 64000000
namespace Go.Proofs.YtfliagpjbbkijaaGreatDoor
open Go Go.Abs
def Yw(n lo up:Int):Pure Tryz.prog aD 175 [I n,I lo,I up] (.bool (wi n lo up)):=by
 refine Qm acY (fun _ _ _=>.junk) zd ?_;by_cases h1:lo<=n<;>by_cases h2:n<=up<;>simp[ahH,ahI,wi,h1,h2]
def ajs(e:It):Pure Tryz.prog aD 179 [.agg (Ql e)] (I e.id):=by
 refine Qm M6 (fun _ _ _=>.junk) zd ?_;simp[TR,Ql,TS]
def xb(e:Bk):Pure Tryz.prog aD 181 [.agg (Xm e)] (I e.id):=by
 refine Qm ac3 (fun _ _ _=>.junk) zd ?_;simp[ahJ,Xm,ahK]
def xd(e:Sp):Pure Tryz.prog aD 214 [.agg (Qe e)] (I e.1):=by
 refine Qm adm (fun _ _ _=>.junk) zd ?_;simp[ahZ,Qe,ah0]
def SX(k:Int):Option Int->Bool
 |some q=>decide (k<=q)
 |none=>false
def Kw(lo up:Int):Option Int->Pi->Bool
 |_,[]=>true
 |pr,k::r=>if k<lo\/up<k\/SX k pr=true then false else Kw lo up (some k) r
def Wx(ks:Pi):Nat->Option Int
 |0=>none
 |i+1=>ks[i]?
def Qdw{ks:Pi}{i:Nat}{k:Int}(h:ks[i]?=some k):Wx ks (i+1)=some k:=h
def keyOf:P1->Int
 |[.agg (.int _ n::_)]=>n
 |_=>0
def iE:X1:=fun _ _ l=>I (keyOf l)
def rC{lo up:Int}{ks:Pi}{i:Nat}{k:Int}(h:ks[i]?=some k):Kw lo up (Wx ks i) (ks.drop i)=if k<lo\/up<k\/SX k (Wx ks i)=true then false else Kw lo up (Wx ks (i+1)) (ks.drop (i+1)):=by
 obtain⟨hi,hk⟩:=zza.1 h;rw[zzae hi,hk,Kw,Qdw h]
def N6(s n:Nat)(R:Nat->Prop)(f:Nat->AV)(m:AM):Prop:=∃(i:Nat)(bx:X2),f s=I i/\i<=n/\R i/\m=⟨bx,[],fun _=>.gone,0⟩
def Q2(L:List It)(lo up:Int)(hl:L.length<=8796093022208):Pure Tryz.prog aD 178 [.sl .ro (L.map Ql),I lo,I up,.fn 179 [] []] (.bool (Kw lo up none (L.map fun x=>x.id))):=by
 obtain⟨T,hT⟩:∃T,Kw lo up none (L.map fun x=>x.id)=T:=⟨_,rfl⟩;rw[hT];refine Qm ac1 iE zd ?_;simp[TQ];refine Qk mD (N6 14 L.length fun i=>Kw lo up (Wx (L.map fun x=>x.id) i) ((L.map fun x=>x.id).drop i)=T) (fun f _=>L.length-(numOf (f 14)).toNat) ?_ ?_
 ·exact⟨0,_,zd,zE,by simpa[Wx]using hT,rfl⟩
 rintro f m ⟨i,bx,tS,hi,ha,rfl⟩;rcases zzab i L.length with ah|bu
 ·obtain⟨x,hx⟩:=aX ah;have ai:Qf (L.map Ql) i=Ql x:=Qv (by simp[hx]);have aa:(i:Int)<(L.length:Int):=zE
  have hw:=bO i zE;have hk:=ajs x;have X3:(L.map fun x=>x.id)[i]?=some x.id:=by simp[hx]
  rw[rC X3]at ha;by_cases c1:x.id<lo
  ·rw[if_pos (.inl c1)]at ha;subst ha;simp[tS,ah,aa,ai,Ql,iE,keyOf,c1,mD,vg];simpa[Ql]using hk
  by_cases c2:up<x.id
  ·rw[if_pos (.inr (.inl c2))]at ha;subst ha;simp[tS,ah,aa,ai,Ql,iE,keyOf,c1,c2,mD,vg];simpa[Ql]using hk
  cases i with
  |zero=>
   rw[if_neg (by simp[c1,c2,Wx,SX])]at ha;have gm:IntKind.i64.wrap 1=1:=by decide
   simp[tS,ah,aa,ai,Ql,iE,keyOf,c1,c2,mD,vg,hw,gm];refine⟨by simpa[Ql]using hk,aP,⟨1,_,zd,zE,ha,rfl⟩,zE⟩
  |succ j=>
   have eZ:j<L.length:=zE
   have sQ:(j:Int)<(L.length:Int):=zE
   obtain⟨y,hy⟩:=aX eZ;have sR:Qf (L.map Ql) j=Ql y:=Qv (by simp[hy]);have hky:=ajs y;have sS:Wx (L.map fun x=>x.id) (j+1)=some y.id:=Qdw (by simp[hy]);have IB:IntKind.i64.wrap (((j+1:Nat):Int)-1)=(j:Int):=by rw[Qh]<;>omega
   have Gu:IntKind.i64.wrap ((j:Int)+1-1)=(j:Int):=by rw[Qh]<;>omega
   have uw:IntKind.i64.wrap (j:Int)=(j:Int):=by rw[Qh]<;>omega
   have ek:(0:Int)<(j:Int)+1:=zE
   have hj0:(0:Int)<=(j:Int):=zE
   have Gv:(0:Int)<=(j:Int)+1:=zE
   have N4:¬(j:Int)<0:=zE
   have Gw:(j:Int)+1<(L.length:Int):=zE
   have eY:IntKind.i64.wrap ((j:Int)+1+1)=((j+1+1:Nat):Int):=by rw[Qh]<;>omega
   by_cases c3:x.id<=y.id
   ·rw[if_pos (.inr (.inr (by rw[sS];simp[SX,c3])))]at ha;subst ha;simp[tS,ah,aa,Gw,ek,hj0,Gv,N4,IB,Gu,uw,eZ,sQ,ai,sR,Ql,iE,keyOf,c1,c2,c3,mD,vg];exact⟨by simpa[Ql]using hk,by simpa[Ql]using hky⟩
   rw[if_neg (by rw[sS];simp[c1,c2,c3,SX])]at ha;simp[tS,ah,aa,Gw,ek,hj0,Gv,N4,IB,Gu,uw,eZ,sQ,ai,sR,Ql,iE,keyOf,c1,c2,c3,mD,vg,eY];refine⟨by simpa[Ql]using hk,by simpa[Ql]using hky,aP,⟨j+1+1,_,zd,zE,ha,rfl⟩,zE⟩
 obtain rfl:i=L.length:=zE
 rw[zzaj zd]at ha;have ha:true=T:=by rw[<- ha];simp[Kw]
 subst ha;simp[tS,mD,vg]
def Q3(L:List Bk)(lo up:Int)(hl:L.length<=8796093022208):Pure Tryz.prog aD 180 [.sl .ro (L.map Xm),I lo,I up,.fn 181 [] []] (.bool (Kw lo up none (L.map fun x=>x.id))):=by
 obtain⟨T,hT⟩:∃T,Kw lo up none (L.map fun x=>x.id)=T:=⟨_,rfl⟩;rw[hT];refine Qm ac2 iE zd ?_;simp[TT];refine Qk mE (N6 14 L.length fun i=>Kw lo up (Wx (L.map fun x=>x.id) i) ((L.map fun x=>x.id).drop i)=T) (fun f _=>L.length-(numOf (f 14)).toNat) ?_ ?_
 ·exact⟨0,_,zd,zE,by simpa[Wx]using hT,rfl⟩
 rintro f m ⟨i,bx,tS,hi,ha,rfl⟩;rcases zzab i L.length with ah|bu
 ·obtain⟨x,hx⟩:=aX ah;have ai:Qf (L.map Xm) i=Xm x:=Qv (by simp[hx]);have aa:(i:Int)<(L.length:Int):=zE
  have hw:=bO i zE;have hk:=xb x;have X3:(L.map fun x=>x.id)[i]?=some x.id:=by simp[hx]
  rw[rC X3]at ha;by_cases c1:x.id<lo
  ·rw[if_pos (.inl c1)]at ha;subst ha;simp[tS,ah,aa,ai,Xm,iE,keyOf,c1,mE,vh];simpa[Xm]using hk
  by_cases c2:up<x.id
  ·rw[if_pos (.inr (.inl c2))]at ha;subst ha;simp[tS,ah,aa,ai,Xm,iE,keyOf,c1,c2,mE,vh];simpa[Xm]using hk
  cases i with
  |zero=>
   rw[if_neg (by simp[c1,c2,Wx,SX])]at ha;have gm:IntKind.i64.wrap 1=1:=by decide
   simp[tS,ah,aa,ai,Xm,iE,keyOf,c1,c2,mE,vh,hw,gm];refine⟨by simpa[Xm]using hk,aP,⟨1,_,zd,zE,ha,rfl⟩,zE⟩
  |succ j=>
   have eZ:j<L.length:=zE
   have sQ:(j:Int)<(L.length:Int):=zE
   obtain⟨y,hy⟩:=aX eZ;have sR:Qf (L.map Xm) j=Xm y:=Qv (by simp[hy]);have hky:=xb y;have sS:Wx (L.map fun x=>x.id) (j+1)=some y.id:=Qdw (by simp[hy]);have IB:IntKind.i64.wrap (((j+1:Nat):Int)-1)=(j:Int):=by rw[Qh]<;>omega
   have Gu:IntKind.i64.wrap ((j:Int)+1-1)=(j:Int):=by rw[Qh]<;>omega
   have uw:IntKind.i64.wrap (j:Int)=(j:Int):=by rw[Qh]<;>omega
   have ek:(0:Int)<(j:Int)+1:=zE
   have hj0:(0:Int)<=(j:Int):=zE
   have Gv:(0:Int)<=(j:Int)+1:=zE
   have N4:¬(j:Int)<0:=zE
   have Gw:(j:Int)+1<(L.length:Int):=zE
   have eY:IntKind.i64.wrap ((j:Int)+1+1)=((j+1+1:Nat):Int):=by rw[Qh]<;>omega
   by_cases c3:x.id<=y.id
   ·rw[if_pos (.inr (.inr (by rw[sS];simp[SX,c3])))]at ha;subst ha;simp[tS,ah,aa,Gw,ek,hj0,Gv,N4,IB,Gu,uw,eZ,sQ,ai,sR,Xm,iE,keyOf,c1,c2,c3,mE,vh];exact⟨by simpa[Xm]using hk,by simpa[Xm]using hky⟩
   rw[if_neg (by rw[sS];simp[c1,c2,c3,SX])]at ha;simp[tS,ah,aa,Gw,ek,hj0,Gv,N4,IB,Gu,uw,eZ,sQ,ai,sR,Xm,iE,keyOf,c1,c2,c3,mE,vh,eY];refine⟨by simpa[Xm]using hk,by simpa[Xm]using hky,aP,⟨j+1+1,_,zd,zE,ha,rfl⟩,zE⟩
 obtain rfl:i=L.length:=zE
 rw[zzaj zd]at ha;have ha:true=T:=by rw[<- ha];simp[Kw]
 subst ha;simp[tS,mE,vh]
def Q4(L:List Sp)(lo up:Int)(hl:L.length<=8796093022208):Pure Tryz.prog aD 213 [.sl .ro (L.map Qe),I lo,I up,.fn 214 [] []] (.bool (Kw lo up none (L.map fun x=>x.1))):=by
 obtain⟨T,hT⟩:∃T,Kw lo up none (L.map fun x=>x.1)=T:=⟨_,rfl⟩;rw[hT];refine Qm adl iE zd ?_;simp[T3];refine Qk mF (N6 14 L.length fun i=>Kw lo up (Wx (L.map fun x=>x.1) i) ((L.map fun x=>x.1).drop i)=T) (fun f _=>L.length-(numOf (f 14)).toNat) ?_ ?_
 ·exact⟨0,_,zd,zE,by simpa[Wx]using hT,rfl⟩
 rintro f m ⟨i,bx,tS,hi,ha,rfl⟩;rcases zzab i L.length with ah|bu
 ·obtain⟨x,hx⟩:=aX ah;have ai:Qf (L.map Qe) i=Qe x:=Qv (by simp[hx]);have aa:(i:Int)<(L.length:Int):=zE
  have hw:=bO i zE;have hk:=xd x;have X3:(L.map fun x=>x.1)[i]?=some x.1:=by simp[hx]
  rw[rC X3]at ha;by_cases c1:x.1<lo
  ·rw[if_pos (.inl c1)]at ha;subst ha;simp[tS,ah,aa,ai,Qe,iE,keyOf,c1,mF,vl];simpa[Qe]using hk
  by_cases c2:up<x.1
  ·rw[if_pos (.inr (.inl c2))]at ha;subst ha;simp[tS,ah,aa,ai,Qe,iE,keyOf,c1,c2,mF,vl];simpa[Qe]using hk
  cases i with
  |zero=>
   rw[if_neg (by simp[c1,c2,Wx,SX])]at ha;have gm:IntKind.i64.wrap 1=1:=by decide
   simp[tS,ah,aa,ai,Qe,iE,keyOf,c1,c2,mF,vl,hw,gm];refine⟨by simpa[Qe]using hk,aP,⟨1,_,zd,zE,ha,rfl⟩,zE⟩
  |succ j=>
   have eZ:j<L.length:=zE
   have sQ:(j:Int)<(L.length:Int):=zE
   obtain⟨y,hy⟩:=aX eZ;have sR:Qf (L.map Qe) j=Qe y:=Qv (by simp[hy]);have hky:=xd y;have sS:Wx (L.map fun x=>x.1) (j+1)=some y.1:=Qdw (by simp[hy]);have IB:IntKind.i64.wrap (((j+1:Nat):Int)-1)=(j:Int):=by rw[Qh]<;>omega
   have Gu:IntKind.i64.wrap ((j:Int)+1-1)=(j:Int):=by rw[Qh]<;>omega
   have uw:IntKind.i64.wrap (j:Int)=(j:Int):=by rw[Qh]<;>omega
   have ek:(0:Int)<(j:Int)+1:=zE
   have hj0:(0:Int)<=(j:Int):=zE
   have Gv:(0:Int)<=(j:Int)+1:=zE
   have N4:¬(j:Int)<0:=zE
   have Gw:(j:Int)+1<(L.length:Int):=zE
   have eY:IntKind.i64.wrap ((j:Int)+1+1)=((j+1+1:Nat):Int):=by rw[Qh]<;>omega
   by_cases c3:x.1<=y.1
   ·rw[if_pos (.inr (.inr (by rw[sS];simp[SX,c3])))]at ha;subst ha;simp[tS,ah,aa,Gw,ek,hj0,Gv,N4,IB,Gu,uw,eZ,sQ,ai,sR,Qe,iE,keyOf,c1,c2,c3,mF,vl];exact⟨by simpa[Qe]using hk,by simpa[Qe]using hky⟩
   rw[if_neg (by rw[sS];simp[c1,c2,c3,SX])]at ha;simp[tS,ah,aa,Gw,ek,hj0,Gv,N4,IB,Gu,uw,eZ,sQ,ai,sR,Qe,iE,keyOf,c1,c2,c3,mF,vl,eY];refine⟨by simpa[Qe]using hk,by simpa[Qe]using hky,aP,⟨j+1+1,_,zd,zE,ha,rfl⟩,zE⟩
 obtain rfl:i=L.length:=zE
 rw[zzaj zd]at ha;have ha:true=T:=by rw[<- ha];simp[Kw]
 subst ha;simp[tS,mF,vl]
def Jv(p:Pl):Bool:=wi p.ch 0 39&&(Vf p.nu p.de&&(Vy p.of p.sh&&(wi p.ep 0 9000000000&&(wi p.rg 1 8&&wi p.ln 1 100000000))))
def xe(p:Pl):X1:=fun _ f l=>
 if f=176 then .bool (Vf p.nu p.de)else if f=177 then .bool (Vy p.of p.sh)else(match l with|[.int _ n,.int _ lo,.int _ up]=>.bool (wi n lo up)|_=>.junk)
def aeV(p:Pl)(fS:p.sh.length<=1000000000):Pure Tryz.prog aD 132 [.ep (Qc p++[.junk,.junk]) 0] (.bool (Jv p)):=by
 have h1:=Yw p.ch 0 39;have h2:=We p.nu p.de;have h3:=jt p.of p.sh fS;have h4:=Yw p.ep 0 9000000000;have h5:=Yw p.rg 1 8;have h6:=Yw p.ln 1 100000000;refine Qm acr (xe p) zd ?_;cases e1:wi p.ch 0 39 with
 |false=>rw[e1]at h1;simp[uZ,u0,Qc,xe,Jv,e1];exact h1
 |true=>
  rw[e1]at h1;cases e2:Vf p.nu p.de with
  |false=>rw[e2]at h2;simp[uZ,u0,Qc,xe,Jv,e1,e2];exact⟨h1,h2⟩
  |true=>
   rw[e2]at h2;cases e3:Vy p.of p.sh with
   |false=>rw[e3]at h3;simp[uZ,u0,Qc,xe,Jv,e1,e2,e3];exact⟨h1,h2,h3⟩
   |true=>
    rw[e3]at h3;cases e4:wi p.ep 0 9000000000 with
    |false=>rw[e4]at h4;simp[uZ,u0,Qc,xe,Jv,e1,e2,e3,e4];exact⟨h1,h2,h3,h4⟩
    |true=>
     rw[e4]at h4;cases e5:wi p.rg 1 8 with
     |false=>rw[e5]at h5;simp[uZ,u0,Qc,xe,Jv,e1,e2,e3,e4,e5];exact⟨h1,h2,h3,h4,h5⟩
     |true=>rw[e5]at h5;simp[uZ,u0,Qc,xe,Jv,e1,e2,e3,e4,e5];exact⟨h1,h2,h3,h4,h5,h6⟩
def aeW:List Cl->Bool
 |[]=>true
 |c::r=>Xe c&&aeW r
def Qdn(p:Pl):Bool:=decide (p.cls.length<=400)&&aeW p.cls
def Bb:X1:=fun _ _ l=>match l with
 |[.agg [.int _ a,.int _ b,.int _ c,.int _ d,.int _ e,.int _ f,.int _ g,.int _ h]]=>.bool (Xe ⟨a,b,c,d,e,f,g,h⟩)
 |_=>.junk
def Q5(p:Pl)(hc:p.cls.length<=1000000000):Pure Tryz.prog aD 136 [.ep (Qc p++[.junk,.junk]) 0] (.bool (Qdn p)):=by
 refine Qm acw Bb zd ?_;by_cases h0:p.cls.length<=400
 ·have y9:¬(400:Int)<(p.cls.length:Int):=zE
  obtain⟨T,hT⟩:∃T,Qdn p=T:=⟨_,rfl⟩;rw[hT];simp[TF,Qc,h0,y9];refine Qk BZ (N6 18 p.cls.length fun i=>aeW (p.cls.drop i)=T) (fun f _=>p.cls.length-(numOf (f 18)).toNat) ?_ ?_
  ·exact⟨0,_,zd,zE,by rw[<- hT];simp[Qdn,h0],rfl⟩
  rintro f m ⟨i,bx,h18,hi,ha,rfl⟩;rcases zzab i p.cls.length with ah|bu
  ·obtain⟨x,hx⟩:=aX ah;have ai:Qf (p.cls.map Qj) i=Qj x:=Qv (by simp[hx]);have aa:(i:Int)<(p.cls.length:Int):=zE
   have hw:=bO i zE;have hk:=Kj x;rw[Zb hx,aeW]at ha;cases hv:Xe x with
   |false=>
    rw[hv]at ha hk;simp at ha;simp[h18,ah,aa,ai,Qj,Bb,hv,BZ,ED,ha];simpa[Qj]using hk
   |true=>
    rw[hv]at ha hk;simp at ha;simp[h18,ah,aa,ai,Qj,Bb,hv,BZ,ED,hw];refine⟨by simpa[Qj]using hk,aP,⟨i+1,_,zd,zE,ha,rfl⟩,zE⟩
  obtain rfl:i=p.cls.length:=zE
  rw[zzbz]at ha;have ha:true=T:=ha;subst ha;simp[h18,BZ,ED]
 have y9:(400:Int)<(p.cls.length:Int):=zE
 simp[TF,ED,Qc,Qdn,h0,y9]
def mI(l:List It):List (Pi×AV):=l.map fun x=>([x.id],.agg (Ql x))
def mK(l:List Bk):List (Pi×AV):=l.map fun x=>([x.id],.agg (Xm x))
def Gx(id:Int):List Bk->Option Bk
 |[]=>none
 |x::r=>if x.id=id then some x else Gx id r
def xg{k:Pi}:∀{kvs:List (Pi×AV)}{i:Nat},(∀p∈kvs,p.1≠k)->Xg k kvs i=none
 |[],_,_=>rfl
 |(k',a)::r,i,h=>by
  rw[Xg,if_neg (fun e=>h (k',a) zd e.symm)];exact xg fun p hp=>h p (by simp[hp])
def amY(id:Int):∀(l:List It)(i:Nat),(Xk id l=none->Xg [id] (mI l) i=none)/\∀x,Xk id l=some x->∃n,Xg [id] (mI l) i=some (n,.agg (Ql x))
 |[],i=>⟨fun _=>rfl,fun x h=>by cases h⟩
 |y::r,i=>by
  have ih:=amY id r (i+1);simp only[mI,zzax,Xg,Xk]at ih |-
  by_cases h:y.id=id
  ·rw[if_pos h,if_pos (by rw[h])];exact⟨fun h=>(by cases h),fun x h=>(by cases h;exact⟨i,rfl⟩)⟩
  rw[if_neg h,if_neg (by intro e;cases e;exact h rfl)];exact ih
def atO(id:Int):∀(l:List Bk)(i:Nat),(Gx id l=none->Xg [id] (mK l) i=none)/\∀x,Gx id l=some x->∃n,Xg [id] (mK l) i=some (n,.agg (Xm x))
 |[],i=>⟨fun _=>rfl,fun x h=>by cases h⟩
 |y::r,i=>by
  have ih:=atO id r (i+1);simp only[mK,zzax,Xg,Gx]at ih |-
  by_cases h:y.id=id
  ·rw[if_pos h,if_pos (by rw[h])];exact⟨fun h=>(by cases h),fun x h=>(by cases h;exact⟨i,rfl⟩)⟩
  rw[if_neg h,if_neg (by intro e;cases e;exact h rfl)];exact ih
def rE{lo up:Int}:∀{ks:Pi}{pr:Option Int},Kw lo up pr ks=true->ks.Pairwise (·<·)/\∀k∈ks,lo<=k/\k<=up/\∀q,pr=some q->q<k
 |[],pr,_=>⟨List.Pairwise.nil,fun k hk=>by cases hk⟩
 |k::r,pr,h=>by
  rw[Kw]at h;split at h
  ·cases h
  rename_i hn;simp only[not_or]at hn;obtain⟨h1,h2⟩:=rE h
  have hk:∀q,pr=some q->q<k:=fun q hq=>by
   have:=hn.2.2;subst hq;simp[SX]at this;omega
  refine⟨zzc.2 ⟨fun a ha=>(h2 a ha).2.2 k rfl,h1⟩,fun a ha=>?_⟩;rcases zzao.1 ha with rfl|ha
  ·exact⟨zE,zE,hk⟩
  obtain⟨g1,g2,g3⟩:=h2 a ha;refine⟨g1,g2,fun q hq=>?_⟩;have:=hk q hq;have:=g3 k rfl;omega
def xh{α:Type}{key:α->Int}{row:α->AV}{l:List α}{i:Nat}{x:α}(h:(l.map key).Pairwise (·<·))(hx:l[i]?=some x):Xg [key x] ((l.take i).map fun x=>([key x],row x)) 0=none:=by
 refine xg fun p hp=>?_;obtain⟨y,hy,rfl⟩:=zzbk.1 hp;obtain⟨j,hj,nY⟩:=zzfy hy;rw[zzav]at hj;rw[List.getElem_take]at nY;obtain⟨hi,hx⟩:=zza.1 hx
 have ah:key l[j]<key l[i]:=by
  have:=zzdo.1 h j i (by simp;omega) (Nm hi) zE;simpa using this
 intro e;rw[<- nY,<- hx]at e;simp only[List.cons.injEq,and_true]at e;omega
def X4(x:It):Bool:=wi x.ki 1 5&&(wi x.fr 1 100000000&&(wi x.sp 0 200&&wi x.ra 0 3))
def xk:List It->Bool
 |[]=>true
 |x::r=>X4 x&&xk r
def AX(p:Pl):Bool:=match Xk p.fi p.aT with
 |some x=>decide (x.ki=5)
 |none=>false
def X5(p:Pl):Bool:=decide (p.aT.length<=4000)&&(Kw 1 1000000 none (p.aT.map fun x=>x.id)&&(xk p.aT&&AX p))
def cn(p:Pl)(kI kB:List (Pi×AV))(bx:X2):AM:=⟨Qc p::[.aM 0 kI]::[.aM 0 kB]::(Qc p++[.mp 1,.mp 2])::bx,[],fun _=>.gone,0⟩
def aeX(x:It):Idle (.agg (Ql x)):=Idle.agg fun c hc=>by
 simp only[Ql,zzao,zzcm,or_false]at hc;rcases hc with rfl|rfl|rfl|rfl|rfl<;>exact Idle.int _ _
def aeY(x:Bk):Idle (.agg (Xm x)):=Idle.agg fun c hc=>by
 simp only[Xm,zzao,zzcm,or_false]at hc;rcases hc with rfl|rfl|rfl|rfl|rfl|rfl|rfl<;>exact Idle.int _ _
def BkK(p:Pl)(K:UV)(r:AV)(m:AM):Prop:=∃kI kB bx,m=cn p kI kB bx/\(∀e∈kI,Idle e.2)/\(∀e∈kB,Idle e.2)/\Idle r/\K r (cn p kI kB [])
def Bc{p:Pl}{K:UV}{r:AV}{m:AM}(kI kB:List (Pi×AV))(bx:X2)(hm:m=cn p kI kB bx)(h1:∀e∈kI,Idle e.2)(h2:∀e∈kB,Idle e.2)(h3:Idle r)(h4:K r (cn p kI kB [])):BkK p K r m:=⟨kI,kB,bx,hm,h1,h2,h3,h4⟩
def sU{f:FuncId}{xs:P1}{p:Pl}{Y:YT}{k0 b0:List (Pi×AV)}{K:UV}
  (h:aF Tryz.prog aD Y f xs (cn p k0 b0 []) (BkK p K)):aF Tryz.prog aD Y f xs (cn p k0 b0 []) K:=by
 refine aF.forget (aF.mono h ?_);rintro r m' ⟨kI,kB,bx,rfl,h1,h2,h3,h4⟩;refine⟨cn p kI kB [],bx,rfl,rfl,rfl,fun id cells hc=>?_,h3,h4⟩
 match id,hc with
 |0,hc=>exact .inl hc
 |1,hc=>cases hc;exact .inr (.inr ⟨0,kI,rfl,h1⟩)
 |2,hc=>cases hc;exact .inr (.inr ⟨0,kB,rfl,h2⟩)
 |3,hc=>exact .inl hc
 |n+4,hc=>cases hc
def pQ(p:Pl):X1:=fun _ f l=>
 if f=178 then .bool (Kw 1 1000000 none (p.aT.map fun x=>x.id))else(match l with|[.int _ n,.int _ lo,.int _ up]=>.bool (wi n lo up)|_=>.junk)
def Vs(l:List It):∀e∈mI l,Idle e.2:=fun e he=>by
 obtain⟨x,_,rfl⟩:=zzbk.1 he;exact aeX x
def Qao(l:List Bk):∀e∈mK l,Idle e.2:=fun e he=>by
 obtain⟨x,_,rfl⟩:=zzbk.1 he;exact aeY x
def aeZ{l:List It}{i:Nat}{x:It}(h:l[i]?=some x):mI (l.take (i+1))=mI (l.take i)++[([x.id],.agg (Ql x))]:=by
 simp[mI,zzap,h]
def ae0{l:List Bk}{i:Nat}{x:Bk}(h:l[i]?=some x):mK (l.take (i+1))=mK (l.take i)++[([x.id],.agg (Xm x))]:=by
 simp[mK,zzap,h]
def Ux{P:Pi×AV->Prop}:∀e∈([]:List (Pi×AV)),P e:=fun e h=>by cases h
def ajt(s n:Nat)(p:Pl)(kI kB:Nat->List (Pi×AV))(R:Nat->Prop)(f:Nat->AV)(m:AM):Prop:=∃(i:Nat)(bx:X2),f s=I i/\i<=n/\R i/\m=cn p (kI i) (kB i) bx
def ae1(p:Pl)(hl:p.aT.length<=1000000000)(Y:YT)(K:UV)(SM:X5 p=true->K (.bool true) (cn p (mI p.aT) [] []))(rF:X5 p=false->∀kI,K (.bool false) (cn p kI [] [])):
  aF Tryz.prog aD Y 133 [.ptr 3 0] (cn p [] [] []) K:=by
 have k90:=Q2 p.aT 1 1000000 zE;refine sU ?_;refine Xn acs (pQ p) zd ?_;by_cases h0:p.aT.length<=4000
 ·have y9:¬(4000:Int)<(p.aT.length:Int):=zE
  cases ha:Kw 1 1000000 none (p.aT.map fun x=>x.id)with
  |false=>
   rw[ha]at k90;simp[EB,ot,cn,Qc,h0,y9,pQ,ha];exact⟨k90,Bc _ _ _ rfl Ux Ux (Idle.bool _) (rF (by simp[X5,ha]) [])⟩
  |true=>
   rw[ha]at k90;have hp:=(rE ha).1;simp[EB,cn,Qc,h0,y9,pQ,ha];refine⟨k90,?_⟩;refine Qk iM (ajt 27 p.aT.length p (fun i=>mI (p.aT.take i)) (fun _=>[]) fun i=>xk (p.aT.drop i)=xk p.aT) (fun f _=>p.aT.length-(numOf (f 27)).toNat) ?_ ?_
   ·exact⟨0,[],zd,zE,zd,by simp[cn,Qc,mI]⟩
   rintro f m ⟨i,bx,h27,hi,fc,rfl⟩;rcases zzab i p.aT.length with ah|bu
   ·obtain⟨x,hx⟩:=aX ah;have ai:Qf (p.aT.map Ql) i=Ql x:=Qv (by simp[hx]);have aa:(i:Int)<(p.aT.length:Int):=zE
    have hw:=bO i zE;have hkf:Xg [x.id] (mI (p.aT.take i)) 0=none:=xh (key:=fun x=>x.id) (row:=fun x=>.agg (Ql x)) hp hx;have bD:=aeZ hx;rw[Zb hx,xk]at fc;have h1:=Yw x.ki 1 5;have h2:=Yw x.fr 1 100000000;have h3:=Yw x.sp 0 200;have h4:=Yw x.ra 0 3;have bad:X4 x=false->X5 p=false:=fun h=>by rw[h]at fc;simp[X5,<- fc]
    cases e1:wi x.ki 1 5 with
    |false=>
     rw[e1]at h1;simp[h27,ah,aa,ai,Ql,cn,Qc,pQ,e1,iM,ot];exact⟨h1,Bc _ _ _ rfl (Vs _) Ux (Idle.bool _) (rF (bad (by simp[X4,e1])) _)⟩
    |true=>
     rw[e1]at h1;cases e2:wi x.fr 1 100000000 with
     |false=>
      rw[e2]at h2;simp[h27,ah,aa,ai,Ql,cn,Qc,pQ,e1,e2,iM,ot];exact⟨h1,h2,Bc _ _ _ rfl (Vs _) Ux (Idle.bool _) (rF (bad (by simp[X4,e1,e2])) _)⟩
     |true=>
      rw[e2]at h2;cases e3:wi x.sp 0 200 with
      |false=>
       rw[e3]at h3;simp[h27,ah,aa,ai,Ql,cn,Qc,pQ,e1,e2,e3,iM,ot];exact⟨h1,h2,h3,Bc _ _ _ rfl (Vs _) Ux (Idle.bool _) (rF (bad (by simp[X4,e1,e2,e3])) _)⟩
      |true=>
       rw[e3]at h3;cases e4:wi x.ra 0 3 with
       |false=>
        rw[e4]at h4;simp[h27,ah,aa,ai,Ql,cn,Qc,pQ,e1,e2,e3,e4,iM,ot];exact⟨h1,h2,h3,h4,Bc _ _ _ rfl (Vs _) Ux (Idle.bool _) (rF (bad (by simp[X4,e1,e2,e3,e4])) _)⟩
       |true=>
        rw[e4]at h4;have bY:X4 x=true:=by simp[X4,e1,e2,e3,e4]
        rw[bY,zzdt]at fc;simp[h27,ah,aa,ai,Ql,cn,Qc,pQ,e1,e2,e3,e4,iM,hw,hkf];refine⟨h1,h2,h3,h4,aP,⟨i+1,bx++[Ql x],zd,zE,fc,?_⟩,zE⟩
        ·simp only[bD];simp[Ql,cn,Qc]
   have bT:¬(i:Int)<(p.aT.length:Int):=zE
   rw[zzaj bu]at fc;have iG:p.aT.take i=p.aT:=zzai bu;simp only[iG];have fc:xk p.aT=true:=by rw[<- fc];rfl
   obtain⟨g1,g2⟩:=amY p.fi p.aT 0;cases hf:Xk p.fi p.aT with
   |none=>
    have g:=g1 hf;simp[h27,bT,iM,ot,cn,Qc,g];exact Bc _ _ _ rfl (Vs _) Ux (Idle.bool _) (rF (by simp[X5,AX,hf]) _)
   |some x=>
    obtain⟨n,g⟩:=g2 x hf;simp[h27,bT,iM,ot,cn,Qc,g,Ql];by_cases h5:x.ki=5
    ·simp only[h5];exact Bc _ _ _ rfl (Vs _) Ux (Idle.bool _) (SM (by simp[X5,AX,hf,h0,ha,fc,h5]))
    have h5':(x.ki==5)=false:=by simpa using h5
    rw[h5'];exact Bc _ _ _ rfl (Vs _) Ux (Idle.bool _) (rF (by simp[X5,AX,hf,h5]) _)
 have y9:(4000:Int)<(p.aT.length:Int):=zE
 simp[EB,ot,cn,Qc,h0,y9,pQ];exact Bc _ _ _ rfl Ux Ux (Idle.bool _) (rF (by simp[X5,h0]) [])
def Dl(x:Bk):Bool:=decide (0<=x.fr)&&(decide (x.fr<x.to)&&(decide (x.to<=x.un)&&decide (x.un<=100000000)))
def kindOf(p:Pl)(id:Int):Int:=match Xk id p.aT with
 |some y=>y.ki
 |none=>0
def X6(p:Pl)(x:Bk):Bool:=decide (kindOf p x.it=2)&&(wi x.re 0 (p.rg-1)&&(Dl x&&wi x.pr 0 1000000000))
def Q6(p:Pl):List Bk->Bool
 |[]=>true
 |x::r=>X6 p x&&Q6 p r
def jy(p:Pl):Bool:=decide (p.bks.length<=2000)&&(Kw 1 1000000 none (p.bks.map fun x=>x.id)&&Q6 p p.bks)
def Dm(p:Pl)(id:Int):∃r,Xg [id] (mI p.aT) 0=r/\((∃n x,Xk id p.aT=some x/\r=some (n,.agg (Ql x)))\/(Xk id p.aT=none/\r=none)):=by
 obtain⟨g1,g2⟩:=amY id p.aT 0;cases hf:Xk id p.aT with
 |none=>exact⟨_,rfl,.inr ⟨rfl,g1 hf⟩⟩
 |some x=>
  obtain⟨n,g⟩:=g2 x hf;exact⟨_,rfl,.inl ⟨n,x,rfl,g⟩⟩
def Q7(p:Pl):X1:=fun _ f l=>
 if f=180 then .bool (Kw 1 1000000 none (p.bks.map fun x=>x.id))else(match l with|[.int _ n,.int _ lo,.int _ up]=>.bool (wi n lo up)|_=>.junk)
def ae2(p:Pl)(hl:p.bks.length<=8796093022208)(SY:1<=p.rg/\p.rg<=8)(Y:YT)(K:UV)(SM:jy p=true->K (.bool true) (cn p (mI p.aT) (mK p.bks) []))(rF:jy p=false->∀kB,K (.bool false) (cn p (mI p.aT) kB [])):
  aF Tryz.prog aD Y 134 [.ptr 3 0] (cn p (mI p.aT) [] []) K:=by
 have k90:=Q3 p.bks 1 1000000 hl;refine sU ?_;refine Xn acu (Q7 p) zd ?_;by_cases h0:p.bks.length<=2000
 ·have y9:¬(2000:Int)<(p.bks.length:Int):=zE
  cases ha:Kw 1 1000000 none (p.bks.map fun x=>x.id)with
  |false=>
   rw[ha]at k90;simp[EC,fU,cn,Qc,h0,y9,Q7,ha];exact⟨k90,Bc _ _ _ rfl (Vs _) Ux (Idle.bool _) (rF (by simp[jy,ha]) [])⟩
  |true=>
   rw[ha]at k90;have hp:=(rE ha).1;simp[EC,cn,Qc,h0,y9,Q7,ha];refine⟨k90,?_⟩;refine Qk eS (ajt 28 p.bks.length p (fun _=>mI p.aT) (fun i=>mK (p.bks.take i)) fun i=>Q6 p (p.bks.drop i)=Q6 p p.bks) (fun f _=>p.bks.length-(numOf (f 28)).toNat) ?_ ?_
   ·exact⟨0,[],zd,zE,zd,by simp[cn,Qc,mK]⟩
   rintro f m ⟨i,bx,h28,hi,fc,rfl⟩;rcases zzab i p.bks.length with ah|bu
   ·obtain⟨x,hx⟩:=aX ah;have ai:Qf (p.bks.map Xm) i=Xm x:=Qv (by simp[hx]);have aa:(i:Int)<(p.bks.length:Int):=zE
    have hw:=bO i zE;have ry:IntKind.i64.wrap (p.rg-1)=p.rg-1:=by rw[Qh]<;>omega
    have hkf:Xg [x.id] (mK (p.bks.take i)) 0=none:=xh (key:=fun x=>x.id) (row:=fun x=>.agg (Xm x)) hp hx;have bD:=ae0 hx;rw[Zb hx,Q6]at fc;have h1:=Yw x.re 0 (p.rg-1);have h2:=Yw x.pr 0 1000000000;have bad:X6 p x=false->jy p=false:=fun h=>by rw[h]at fc;simp[jy,<- fc]
    obtain⟨r,hr,Q8⟩:=Dm p x.it;by_cases gU:kindOf p x.it=2
    ·obtain⟨n,y,hf,rfl⟩|⟨hf,rfl⟩:=Q8
     ·have hy:y.ki=2:=by simpa[kindOf,hf]using gU
      cases e1:wi x.re 0 (p.rg-1)with
      |false=>
       rw[e1]at h1;simp[h28,ah,aa,ai,Xm,cn,Qc,Q7,hr,Ql,hy,ry,e1,eS,fU];exact⟨h1,Bc _ _ _ rfl (Vs _) (Qao _) (Idle.bool _) (rF (bad (by simp[X6,e1])) _)⟩
      |true=>
       rw[e1]at h1;cases e2:Dl x with
       |false=>
        have e2':¬(0<=x.fr)\/(0<=x.fr/\¬x.fr<x.to)\/(0<=x.fr/\x.fr<x.to/\¬x.to<=x.un)\/(0<=x.fr/\x.fr<x.to/\x.to<=x.un/\¬x.un<=100000000):=by
         simp[Dl]at e2;omega
        obtain c1|⟨c1,c2⟩|⟨c1,c2,c3⟩|⟨c1,c2,c3,c4⟩:=e2'
        ·simp[h28,ah,aa,ai,Xm,cn,Qc,Q7,hr,Ql,hy,ry,e1,c1,eS,fU];exact⟨h1,Bc _ _ _ rfl (Vs _) (Qao _) (Idle.bool _) (rF (bad (by simp[X6,e1,e2])) _)⟩
        ·simp[h28,ah,aa,ai,Xm,cn,Qc,Q7,hr,Ql,hy,ry,e1,c1,c2,eS,fU];exact⟨h1,Bc _ _ _ rfl (Vs _) (Qao _) (Idle.bool _) (rF (bad (by simp[X6,e1,e2])) _)⟩
        ·simp[h28,ah,aa,ai,Xm,cn,Qc,Q7,hr,Ql,hy,ry,e1,c1,c2,c3,eS,fU];exact⟨h1,Bc _ _ _ rfl (Vs _) (Qao _) (Idle.bool _) (rF (bad (by simp[X6,e1,e2])) _)⟩
        simp[h28,ah,aa,ai,Xm,cn,Qc,Q7,hr,Ql,hy,ry,e1,c1,c2,c3,c4,eS,fU];exact⟨h1,Bc _ _ _ rfl (Vs _) (Qao _) (Idle.bool _) (rF (bad (by simp[X6,e1,e2])) _)⟩
       |true=>
        have e2':0<=x.fr/\x.fr<x.to/\x.to<=x.un/\x.un<=100000000:=by
         simp[Dl]at e2;omega
        obtain⟨c1,c2,c3,c4⟩:=e2';cases e3:wi x.pr 0 1000000000 with
        |false=>
         rw[e3]at h2;simp[h28,ah,aa,ai,Xm,cn,Qc,Q7,hr,Ql,hy,ry,e1,c1,c2,c3,c4,e3,eS,fU];exact⟨h1,h2,Bc _ _ _ rfl (Vs _) (Qao _) (Idle.bool _) (rF (bad (by simp[X6,e1,e2,e3])) _)⟩
        |true=>
         rw[e3]at h2;have bY:X6 p x=true:=by simp[X6,gU,e1,e2,e3]
         rw[bY,zzdt]at fc;simp[h28,ah,aa,ai,Xm,cn,Qc,Q7,hr,Ql,hy,ry,e1,c1,c2,c3,c4,e3,eS,fU,hw,hkf];refine⟨h1,h2,aP,⟨i+1,bx++[Xm x],zd,zE,fc,?_⟩,zE⟩
         ·simp only[bD];simp[Xm,cn,Qc]
     simp[kindOf,hf]at gU
    have hb:=bad (by simp[X6,gU]);obtain⟨n,y,hf,rfl⟩|⟨hf,rfl⟩:=Q8
    ·have hy:¬y.ki=2:=by simpa[kindOf,hf]using gU
     simp[h28,ah,aa,ai,Xm,cn,Qc,Q7,hr,Ql,hy,ry,eS,fU];exact Bc _ _ _ rfl (Vs _) (Qao _) (Idle.bool _) (rF hb _)
    simp[h28,ah,aa,ai,Xm,cn,Qc,Q7,hr,Ql,ry,eS,fU];exact Bc _ _ _ rfl (Vs _) (Qao _) (Idle.bool _) (rF hb _)
   have bT:¬(i:Int)<(p.bks.length:Int):=zE
   rw[zzaj bu]at fc;have iG:p.bks.take i=p.bks:=zzai bu;simp only[iG];have fc:Q6 p p.bks=true:=by rw[<- fc];rfl
   simp[h28,bT,eS,fU,cn,Qc];exact Bc _ _ _ rfl (Vs _) (Qao _) (Idle.bool _) (SM (by simp[jy,h0,ha,fc]))
 have y9:(2000:Int)<(p.bks.length:Int):=zE
 simp[EC,fU,cn,Qc,h0,y9,Q7];exact Bc _ _ _ rfl (Vs _) Ux (Idle.bool _) (rF (by simp[jy,h0]) [])
def RdK(m:AM)(K:UV)(r:AV)(m':AM):Prop:=∃ex,m'={m with boxes:=m.boxes++ex}/\Idle r/\K r m
def pR{m:AM}{K:UV}{r:AV}{m':AM}(ex:X2)(hm:m'={m with boxes:=m.boxes++ex})(hi:Idle r)(hK:K r m):RdK m K r m':=⟨ex,hm,hi,hK⟩
def Kl{f:FuncId}{xs:P1}{m:AM}{Y:YT}{K:UV}(h:aF Tryz.prog aD Y f xs m (RdK m K)):aF Tryz.prog aD Y f xs m K:=by
 refine aF.mono (aF.read (K:=fun r=>K r m) (aF.mono h fun r m' h=>h)) ?_;rintro r m' ⟨rfl,h⟩;exact h
def Gy:∀{l:List It},xk l=true->∀x∈l,X4 x=true
 |y::r,h,x,hx=>by
  rw[xk,zzak]at h;rcases zzao.1 hx with rfl|hx
  ·exact h.1
  exact Gy h.2 x hx
def amZ{x:It}(h:X4 x=true):(1<=x.ki/\x.ki<=5)/\(1<=x.fr/\x.fr<=100000000)/\(0<=x.sp/\x.sp<=200)/\(0<=x.ra/\x.ra<=3):=by
 simp only[X4,wi,zzak,decide_eq_true_eq]at h;exact h
def sV(p:Pl)(e:En):Bool:=match Xk e.it p.aT with
 |none=>false
 |some y=>if y.ki=5 then false else if wi e.fr 1 y.fr=false then false else if y.ki≠4/\e.fr≠y.fr then false else decide (0<=e.ea)&&(decide (e.ea<=e.la)&&decide (e.la<=p.ln-e.fr))
def jH:X1:=fun _ f l=>match l with|[.int _ n,.int _ lo,.int _ up]=>.bool (wi n lo up)|_=>.junk
def am0(p:Pl)(e:En)(kB:List (Pi×AV))(bx:X2)(X7:xk p.aT=true)(eO:1<=p.ln/\p.ln<=100000000)(Y:YT)(K:UV)(hK:∀b,sV p e=b->K (.bool b) (cn p (mI p.aT) kB bx)):
  aF Tryz.prog aD Y 182 [.ptr 3 0,.agg (Qd e)] (cn p (mI p.aT) kB bx) K:=by
 refine Kl (Xn ac4 jH zd ?_);obtain⟨r,hr,Q8⟩:=Dm p e.it;simp[ahL,ahM,cn,Qc,Qd];refine Jb ?_;obtain⟨n,y,hf,rfl⟩|⟨hf,rfl⟩:=Q8
 ·obtain⟨g1,g2,g3,g4⟩:=amZ (Gy X7 y (F8 hf).1);have h1:=Yw e.fr 1 y.fr;by_cases c1:y.ki=5
  ·simp[hr,Ql,c1];exact pR _ rfl (Idle.bool _) (hK _ (by simp[sV,hf,c1]))
  cases c2:wi e.fr 1 y.fr with
  |false=>
   rw[c2]at h1;simp[hr,Ql,c1,c2,jH];exact⟨h1,pR _ rfl (Idle.bool _) (hK _ (by simp[sV,hf,c1,c2]))⟩
  |true=>
   rw[c2]at h1;have c2':1<=e.fr/\e.fr<=y.fr:=by simpa[wi]using c2
   have hw:IntKind.i64.wrap (p.ln-e.fr)=p.ln-e.fr:=by rw[Qh]<;>omega
   by_cases c3:y.ki≠4/\e.fr≠y.fr
   ·simp[hr,Ql,c1,c2,jH,c3.1,c3.2];exact⟨h1,pR _ rfl (Idle.bool _) (hK _ (by simp[sV,hf,c1,c2,c3.1,c3.2]))⟩
   have fin:∀b,(decide (0<=e.ea)&&(decide (e.ea<=e.la)&&decide (e.la<=p.ln-e.fr)))=b->sV p e=b:=fun b hb=>by
    rw[sV,hf];simp only;rw[if_neg c1,if_neg (by simp[c2]),if_neg c3];exact hb
   have c3':y.ki=4\/(¬y.ki=4/\e.fr=y.fr):=by
    by_cases h:y.ki=4
    ·exact .inl h
    exact .inr ⟨h,by by_cases h':e.fr=y.fr;exact h';exact absurd ⟨h,h'⟩ c3⟩
   by_cases d1:0<=e.ea
   ·by_cases d2:e.ea<=e.la
    ·by_cases d3:e.la<=p.ln-e.fr
     ·obtain c|⟨c,c'⟩:=c3'
      ·simp[hr,Ql,c1,c2,jH,c,hw,d1,d2,d3];exact⟨h1,pR _ rfl (Idle.bool _) (hK _ (fin _ (by simp[d1,d2,d3])))⟩
      rw[<- c']at c2 h1;simp[hr,Ql,c1,c2,jH,c,<- c',hw,d1,d2,d3];exact⟨h1,pR _ rfl (Idle.bool _) (hK _ (fin _ (by simp[d1,d2,d3])))⟩
     obtain c|⟨c,c'⟩:=c3'
     ·simp[hr,Ql,c1,c2,jH,c,hw,d1,d2,d3];exact⟨h1,pR _ rfl (Idle.bool _) (hK _ (fin _ (by simp[d1,d2,d3])))⟩
     rw[<- c']at c2 h1;simp[hr,Ql,c1,c2,jH,c,<- c',hw,d1,d2,d3];exact⟨h1,pR _ rfl (Idle.bool _) (hK _ (fin _ (by simp[d1,d2,d3])))⟩
    obtain c|⟨c,c'⟩:=c3'
    ·simp[hr,Ql,c1,c2,jH,c,d1,d2];exact⟨h1,pR _ rfl (Idle.bool _) (hK _ (fin _ (by simp[d1,d2])))⟩
    rw[<- c']at c2 h1;simp[hr,Ql,c1,c2,jH,c,<- c',d1,d2];exact⟨h1,pR _ rfl (Idle.bool _) (hK _ (fin _ (by simp[d1,d2])))⟩
   obtain c|⟨c,c'⟩:=c3'
   ·simp[hr,Ql,c1,c2,jH,c,d1];exact⟨h1,pR _ rfl (Idle.bool _) (hK _ (fin _ (by simp[d1])))⟩
   rw[<- c']at c2 h1;simp[hr,Ql,c1,c2,jH,c,<- c',d1];exact⟨h1,pR _ rfl (Idle.bool _) (hK _ (fin _ (by simp[d1])))⟩
 simp[hr];exact pR _ rfl (Idle.bool _) (hK _ (by simp[sV,hf]))
def zC(p:Pl)(e:En)(a:Sp):Bool:=match Xk a.2 p.aT with
 |none=>false
 |some y=>decide (y.fr=e.fr)&&(decide (y.ki≠5)&&decide (y.ki≠4))
def N7(p:Pl)(e:En)(kB:List (Pi×AV))(b0:X2):AM:=cn p (mI p.aT) kB (b0++[[.ptr 3 0],Qd e])
def rdA{p:Pl}{e:En}{kB:List (Pi×AV)}{b0:X2}{K:UV}{r:AV}{m':AM}(ex:X2)(hm:m'=cn p (mI p.aT) kB (b0++([.ptr 3 0]::Qd e::ex)))(hi:Idle r)(hK:K r (N7 p e kB b0)):RdK (N7 p e kB b0) K r m':=
 pR ex (by rw[hm];simp[N7,cn]) hi hK
def X8(p:Pl)(e:En)(a:Sp)(kB:List (Pi×AV))(b0:X2)(Y:YT)(K:UV)(hK:K (.bool (!zC p e a)) (N7 p e kB b0)):
  aF Tryz.prog aD Y 215 [.agg (Qe a),.ptr (b0.length+4) 0,.ptr (b0.length+5) 0] (N7 p e kB b0) K:=by
 refine Kl (Xn adn (fun _ _ _=>.junk) zd ?_);obtain⟨r,hr,Q8⟩:=Dm p a.2;simp[ah1,ah2,N7,cn,Qc,Qd,Qe];refine Jb ?_;obtain⟨n,y,hf,rfl⟩|⟨hf,rfl⟩:=Q8
 ·by_cases c1:y.fr=e.fr
  ·by_cases c2:y.ki=5
   ·have:(!zC p e a)=true:=by simp[zC,hf,c1,c2]
    rw[this]at hK;simp[hr,Ql,c1,c2];exact rdA _ rfl (Idle.bool _) hK
   by_cases c3:y.ki=4
   ·have:(!zC p e a)=true:=by simp[zC,hf,c1,c2,c3]
    rw[this]at hK;simp[hr,Ql,c1,c2,c3];exact rdA _ rfl (Idle.bool _) hK
   have:(!zC p e a)=false:=by simp[zC,hf,c1,c2,c3]
   rw[this]at hK;have h':(y.ki==5||y.ki==4)=false:=by simp[c2,c3]
   simp[hr,Ql,c1,c2,c3];rw[h'];exact rdA _ rfl (Idle.bool _) hK
  have:(!zC p e a)=true:=by simp[zC,hf,c1]
  rw[this]at hK;have h':(y.fr !=e.fr||y.ki==5||y.ki==4)=true:=by simp[c1]
  simp[hr,Ql,c1];rw[h'];exact rdA _ rfl (Idle.bool _) hK
 have:(!zC p e a)=true:=by simp[zC,hf]
 rw[this]at hK;simp[hr];exact rdA _ rfl (Idle.bool _) hK
def jI{α:Type}(b:α->Bool):List α->Nat->Int
 |[],_=> -1
 |x::r,i=>if b x=true then(i:Int)else jI b r (i+1)
def xl{α:Type}(b:α->Bool):∀(l:List α)(i:Nat),(0<=jI b l i<->l.any b=true)
 |[],i=>by simp[jI]
 |x::r,i=>by
  rw[jI];cases h:b x with
  |true=>simp[h]
  |false=>simp[h,xl b r (i+1)]
def atP(s n:Nat)(m0:AM)(R:Nat->Prop)(f:Nat->AV)(m:AM):Prop:=∃(i:Nat),f s=I i/\i<=n/\R i/\m=m0
def X9(p:Pl)(e:En)(L:List Sp)(hl:L.length<=8796093022208)(kB:List (Pi×AV))(b0:X2)(Y:YT)(K:UV)(hK:K (I (jI (fun a=>!zC p e a) L 0)) (N7 p e kB b0)):
  aF Tryz.prog aD Y 239 [.sl .ro (L.map Qe),.fn 215 [] [.ptr (b0.length+4) 0,.ptr (b0.length+5) 0]] (N7 p e kB b0) K:=by
 obtain⟨T,hT⟩:∃T,jI (fun a=>!zC p e a) L 0=T:=⟨_,rfl⟩;rw[hT]at hK;refine Xn adI (fun _ _ _=>.gd false .junk) zd ?_;simp[air];refine Qk vo (atP 8 L.length (N7 p e kB b0) fun i=>jI (fun a=>!zC p e a) (L.drop i) i=T) (fun f _=>L.length-(numOf (f 8)).toNat) ?_ ?_
 ·exact⟨0,zd,zE,Nm hT,rfl⟩
 rintro f m ⟨i,h8,hi,hx,rfl⟩;rcases zzab i L.length with ah|bu
 ·obtain⟨a,ha⟩:=aX ah;have ai:=Ze ha;have aa:(i:Int)<(L.length:Int):=zE
  have hw:=bO i zE;rw[Zb ha,jI]at hx;simp[h8,ah,aa,ai,vo,EL];refine X8 p e a kB b0 Y _ ?_;cases hb:zC p e a with
  |false=>
   rw[hb]at hx;simp at hx;simp[h8,vo,EL,hx];exact hK
  |true=>
   rw[hb]at hx;simp at hx;simp[h8,vo,EL,hw];refine⟨aP,⟨i+1,zd,zE,hx,rfl⟩,zE⟩
 have bT:¬(i:Int)<(L.length:Int):=zE
 rw[zzaj bu,jI]at hx;simp[h8,bT,zzbj.2 bu,vo,EL,hx];exact hK
def Lb(p:Pl)(e:En)(L:List Sp)(hl:L.length<=8796093022208)(kB:List (Pi×AV))(b0:X2)(Y:YT)(K:UV)(hK:K (.bool (L.any fun a=>!zC p e a)) (N7 p e kB b0)):
  aF Tryz.prog aD Y 216 [.sl .ro (L.map Qe),.fn 215 [] [.ptr (b0.length+4) 0,.ptr (b0.length+5) 0]] (N7 p e kB b0) K:=by
 have am1:=xl (fun a=>!zC p e a) L 0;refine Xn ado (fun _ _ _=>.gd false .junk) zd ?_;simp[ah3];refine X9 p e L hl kB b0 Y _ ?_
 have:decide (0<=jI (fun a=>!zC p e a) L 0)=L.any fun a=>!zC p e a:=by
  rw[zzbq,decide_eq_true_eq];exact am1
 simp[ah4,this];simpa using hK
def xm(p:Pl)(e:En):Bool:=Kw 1 (p.rg-1) none (e.al.map fun x=>x.1)&&(!(decide (kindOf p e.it=4)&&decide (e.al≠[]))&&!(e.al.any fun a=>!zC p e a))
def Be(p:Pl)(e:En):X1:=fun _ f _=>if f=213 then .bool (Kw 1 (p.rg-1) none (e.al.map fun x=>x.1))else .gd false .junk
def am2(p:Pl)(e:En)(hl:e.al.length<=8796093022208)(SY:1<=p.rg/\p.rg<=8)(kB:List (Pi×AV))(bx:X2)(Y:YT)(K:UV)(hK:∀b,xm p e=b->K (.bool b) (cn p (mI p.aT) kB bx)):
  aF Tryz.prog aD Y 183 [.ptr 3 0,.agg (Qd e)] (cn p (mI p.aT) kB bx) K:=by
 have Gz:=Q4 e.al 1 (p.rg-1) hl;refine Kl (Xn ac5 (Be p e) zd ?_);obtain⟨r,hr,Q8⟩:=Dm p e.it;have ry:IntKind.i64.wrap (p.rg-1)=p.rg-1:=by rw[Qh]<;>omega
 cases h1:Kw 1 (p.rg-1) none (e.al.map fun x=>x.1)with
 |false=>
  rw[h1]at Gz;simp[Ao,ou,cn,Qc,Qd,ry,Be,h1];exact⟨Gz,pR _ rfl (Idle.bool _) (hK _ (by simp[xm,h1]))⟩
 |true=>
  rw[h1]at Gz;have tl:∀(E:QP),True:=fun _=>trivial;have hgo:kindOf p e.it=4->e.al≠[]->xm p e=false:=fun h h'=>by simp[xm,h,h']
  have tH:¬(kindOf p e.it=4/\e.al≠[])->xm p e=!(e.al.any fun a=>!zC p e a):=fun h=>by
   have:(decide (kindOf p e.it=4)&&decide (e.al≠[]))=false:=by
    rw[Bool.eq_false_iff];intro h';simp at h';exact h h'
   rw[xm,h1,this];rfl
  obtain⟨n,y,hf,rfl⟩|⟨hf,rfl⟩:=Q8
  ·have hkd:kindOf p e.it=y.ki:=by simp[kindOf,hf]
   by_cases c1:y.ki=4
   ·by_cases c2:e.al=[]
    ·have P5:=tH (by simp[c2]);have c2l:¬0<e.al.length:=by simp[c2]
     simp[Ao,ou,cn,Qc,Qd,ry,Be,h1,hr,Ql,c1,c2];rw[c2]at Gz;refine⟨Gz,?_⟩;have:=Lb p e [] zd kB bx Y;simp only[N7,cn,Qc,Qd,c2]at this;refine this _ ?_;simp[ou];exact pR _ rfl (Idle.bool _) (hK _ (by rw[P5,c2];rfl))
    have c2l:0<e.al.length:=zzdi.2 c2;simp[Ao,ou,cn,Qc,Qd,ry,Be,h1,hr,Ql,c1,c2l];exact⟨Gz,pR _ rfl (Idle.bool _) (hK _ (hgo (by rw[hkd,c1]) c2))⟩
   have P5:=tH (by rw[hkd];exact fun h=>c1 h.1);simp[Ao,ou,cn,Qc,Qd,ry,Be,h1,hr,Ql,c1];refine⟨Gz,?_⟩;have:=Lb p e e.al hl kB bx Y;simp only[N7,cn,Qc,Qd]at this;refine this _ ?_;simp[ou];exact pR _ rfl (Idle.bool _) (hK _ (by rw[P5]))
  have P5:=tH (by simp[kindOf,hf]);simp[Ao,ou,cn,Qc,Qd,ry,Be,h1,hr];refine⟨Gz,?_⟩;have:=Lb p e e.al hl kB bx Y;simp only[N7,cn,Qc,Qd]at this;refine this _ ?_;simp[ou];exact pR _ rfl (Idle.bool _) (hK _ (by rw[P5]))
def xq(x a:Sp):Bool:=x.1==a.1&&x.2==a.2
def Ys(x:Sp)(L:List Sp):L.any (xq x)=decide (x∈L):=by
 rw[zzbq];simp only[zzbu,decide_eq_true_eq,xq,zzak,beq_iff_eq];constructor
 ·rintro⟨a,h,h1,h2⟩;have:x=a:=Prod.ext h1 h2;rw[this];exact h
 exact fun h=>⟨x,h,rfl,rfl⟩
def YA(x:Sp)(L:List Sp)(hl:L.length<=8796093022208):Pure Tryz.prog aD 240 [.sl .ro (L.map Qe),.agg (Qe x)] (I (jI (xq x) L 0)):=by
 obtain⟨T,hT⟩:∃T,jI (xq x) L 0=T:=⟨_,rfl⟩;rw[hT];refine Qm adJ (fun _ _ _=>.junk) zd ?_;simp[ais,Qe];refine Qk Cn (atP 8 L.length ⟨[[I x.1,I x.2]],[],fun _=>.gone,0⟩ fun i=>jI (xq x) (L.drop i) i=T) (fun f _=>L.length-(numOf (f 8)).toNat) ?_ ?_
 ·exact⟨0,zd,zE,Nm hT,rfl⟩
 rintro f m ⟨i,h8,hi,hx,rfl⟩;rcases zzab i L.length with ah|bu
 ·obtain⟨a,ha⟩:=aX ah;have ai:Qf (L.map Qe) i=Qe a:=Ze ha;have aju:Qf (L.map fun x=>[I x.1,I x.2]) i=Qe a:=ai;have aa:(i:Int)<(L.length:Int):=zE
  have hw:=bO i zE;rw[Zb ha,jI]at hx;cases hb:xq x a with
  |false=>
   rw[hb]at hx;simp at hx;simp only[xq]at hb;simp[h8,ah,aa,ai,aju,Cn,Nj,hw,Qe,hb];refine⟨aP,⟨i+1,zd,zE,hx,rfl⟩,zE⟩
  |true=>
   rw[hb]at hx;simp at hx;simp only[xq]at hb;subst hx;simp[h8,ah,aa,ai,aju,Cn,Nj,Qe,hb]
 have bT:¬(i:Int)<(L.length:Int):=zE
 rw[zzaj bu,jI]at hx;simp[h8,bT,zzbj.2 bu,Cn,Nj,hx]
def GA(x:Sp)(L:List Sp)(hl:L.length<=8796093022208):Pure Tryz.prog aD 217 [.sl .ro (L.map Qe),.agg (Qe x)] (.bool (decide (x∈L))):=by
 have k:=YA x L hl;have am1:=xl (xq x) L 0;refine Qm adp (fun _ _ _=>I (jI (xq x) L 0)) zd ?_
 have:decide (0<=jI (xq x) L 0)=decide (x∈L):=by
  rw[<- Ys,zzbq,decide_eq_true_eq];exact am1
 simp[ah5,ah6,this,Qe];simpa[Qe]using k
def am3(p:Pl)(id:Int):∃r,Xg [id] (mK p.bks) 0=r/\((∃n x,Gx id p.bks=some x/\r=some (n,.agg (Xm x)))\/(Gx id p.bks=none/\r=none)):=by
 obtain⟨g1,g2⟩:=atO id p.bks 0;cases hf:Gx id p.bks with
 |none=>exact⟨_,rfl,.inr ⟨rfl,g1 hf⟩⟩
 |some x=>
  obtain⟨n,g⟩:=g2 x hf;exact⟨_,rfl,.inl ⟨n,x,rfl,g⟩⟩
def Q9(p:Pl)(e:En):Bool:=if e.bo=0 then true else match Gx e.bo p.bks with
 |none=>false
 |some x=>if x.re=0 then decide (x.it=e.it)else decide ((x.re,x.it)∈e.al)
def Ra(p:Pl)(e:En)(hl:e.al.length<=8796093022208)(kI:List (Pi×AV))(bx:X2)(Y:YT)(K:UV)(hK:∀b,Q9 p e=b->K (.bool b) (cn p kI (mK p.bks) bx)):
  aF Tryz.prog aD Y 184 [.ptr 3 0,.agg (Qd e)] (cn p kI (mK p.bks) bx) K:=by
 obtain⟨r,hr,Q8⟩:=am3 p e.bo;by_cases h0:e.bo=0
 ·refine Kl (Xn Ch (fun _ _ _=>.junk) zd ?_);simp[M7,M8,cn,Qc,Qd,h0];exact pR _ rfl (Idle.bool _) (hK _ (by simp[Q9,h0]))
 obtain⟨n,x,hf,rfl⟩|⟨hf,rfl⟩:=Q8
 ·have k:=GA (x.re,x.it) e.al hl;refine Kl (Xn Ch (fun _ _ _=>.bool (decide ((x.re,x.it)∈e.al))) zd ?_);simp[M7,M8,cn,Qc,Qd,h0];refine Jb ?_;by_cases c1:x.re=0
  ·simp[hr,Xm,c1];exact pR _ rfl (Idle.bool _) (hK _ (by simp only[Q9,h0,hf,c1];rw[zzbq];simp))
  simp[hr,Xm,c1];refine⟨by simpa[Qe]using k,pR _ rfl (Idle.bool _) (hK _ (by simp[Q9,h0,hf,c1]))⟩
 refine Kl (Xn Ch (fun _ _ _=>.junk) zd ?_);simp[M7,M8,cn,Qc,Qd,h0];refine Jb ?_;simp[hr];exact pR _ rfl (Idle.bool _) (hK _ (by simp[Q9,h0,hf]))
def Dn(p:Pl)(seen:Pi)(e:En):Bool:=wi e.id 1 1000000&&(!decide (e.id∈seen)&&(sV p e&&(xm p e&&Q9 p e)))
def Rb(p:Pl):Pi->List En->Bool
 |_,[]=>true
 |seen,e::r=>Dn p seen e&&Rb p (seen++[e.id]) r
def Bf(p:Pl):Bool:=decide (p.ens.length<=4000)&&Rb p [] p.ens
def mS(l:Pi):List (Pi×AV):=l.map fun n=>([n],.bool true)
def atQ(k:Int):∀(l:Pi)(i:Nat),(k∈l->∃n,Xg [k] (mS l) i=some (n,.bool true))/\(¬k∈l->Xg [k] (mS l) i=none)
 |[],i=>⟨fun h=>(by cases h),fun _=>rfl⟩
 |x::r,i=>by
  have ih:=atQ k r (i+1);simp only[mS,zzax,Xg]at ih |-
  by_cases h:x=k
  ·subst h;simp
  have h':¬k=x:=fun e=>h e.symm;rw[if_neg (by intro e;cases e;exact h rfl)];simp only[zzao,h',false_or];exact ih
def xu:X1:=fun _ f l=>if f=175 then(match l with|[.int _ n,.int _ lo,.int _ up]=>.bool (wi n lo up)|_=>.junk)else .gd false .junk
def am4(p:Pl)(f:Nat->AV)(m:AM):Prop:=∃(i:Nat)(bx:X2),f 20=I i/\i<=p.ens.length/\Rb p ((p.ens.take i).map fun e=>e.id) (p.ens.drop i)=Rb p [] p.ens/\f 3=.mp 4/\m=cn p (mI p.aT) (mK p.bks) ([.aM 0 (mS ((p.ens.take i).map fun e=>e.id))]::bx)
def Qdf{p:Pl}{i:Nat}{e:En}(h:p.ens[i]?=some e):Qf (p.ens.map Qd) i=Qd e:=Qv (by simp[h])
def Rf(p:Pl)(hl:p.ens.length<=1000000000)(fc:∀e∈p.ens,e.al.length<=8796093022208)(X7:xk p.aT=true)(SY:1<=p.rg/\p.rg<=8)(eO:1<=p.ln/\p.ln<=100000000)(Y:YT)(K:UV)(hK:∀b,Bf p=b->K (.bool b) (cn p (mI p.aT) (mK p.bks) [])):
  aF Tryz.prog aD Y 135 [.ptr 3 0] (cn p (mI p.aT) (mK p.bks) []) K:=by
 refine Kl (Xn acv xu zd ?_);by_cases h0:p.ens.length<=4000
 ·have y9:¬(4000:Int)<(p.ens.length:Int):=zE
  simp[MW,cn,Qc,h0,y9];refine Qk qy (am4 p) (fun f _=>p.ens.length-(numOf (f 20)).toNat) ?_ ?_
  ·exact⟨0,[],zd,zE,zd,zd,by simp[cn,Qc,mS]⟩
  rintro f m ⟨i,bx,h20,hi,ha,h3,rfl⟩;rcases zzab i p.ens.length with ah|bu
  ·obtain⟨e,he⟩:=aX ah;have ai:=Qdf he;have aa:(i:Int)<(p.ens.length:Int):=zE
   have hw:=bO i zE;have bD:(p.ens.take (i+1)).map (fun e=>e.id)=(p.ens.take i).map (fun e=>e.id)++[e.id]:=by simp[zzap,he]
   rw[Zb he,Rb,<- bD]at ha;obtain⟨S,hS⟩:∃S,(p.ens.take i).map (fun e=>e.id)=S:=⟨_,rfl⟩;rw[hS]at ha bD |-
   have h1:=Yw e.id 1 1000000;have hae:=fc e (zzad he);obtain⟨s1,s2⟩:=atQ e.id S 0;have bad:Dn p S e=false->Bf p=false:=fun h=>by rw[h]at ha;simp[Bf,<- ha]
   cases e1:wi e.id 1 1000000 with
   |false=>
    rw[e1]at h1;simp[h20,h3,ah,aa,ai,Qd,cn,Qc,xu,e1,qy,sk];exact⟨h1,pR _ rfl (Idle.bool _) (hK _ (bad (by simp[Dn,e1])))⟩
   |true=>
    rw[e1]at h1;by_cases e2:e.id∈S
    ·obtain⟨n,s1⟩:=s1 e2;simp[h20,h3,ah,aa,ai,Qd,cn,Qc,xu,e1,s1,qy,sk];exact⟨h1,pR _ rfl (Idle.bool _) (hK _ (bad (by simp[Dn,e1,e2])))⟩
    have s2:=s2 e2;simp[h20,h3,ah,aa,ai,Qd,cn,Qc,xu,e1,s2,qy];refine⟨h1,am0 p e (mK p.bks) ([.aM 0 (mS S)]::(bx++[Qd e])) X7 eO Y _ fun b hb=>?_⟩;cases b with
    |false=>
     simp[sk];exact pR _ rfl (Idle.bool _) (hK _ (bad (by simp[Dn,e1,e2,hb])))
    |true=>
     simp[cn,Qc,Qd,xu];refine am2 p e hae SY (mK p.bks) ([.aM 0 (mS S)]::(bx++[Qd e])) Y _ fun b iI=>?_;cases b with
     |false=>
      simp[sk];exact pR _ rfl (Idle.bool _) (hK _ (bad (by simp[Dn,e1,e2,hb,iI])))
     |true=>
      simp[cn,Qc,Qd,xu];refine Ra p e hae (mI p.aT) ([.aM 0 (mS S)]::(bx++[Qd e])) Y _ fun b SS=>?_;cases b with
      |false=>
       simp[sk];exact pR _ rfl (Idle.bool _) (hK _ (bad (by simp[Dn,e1,e2,hb,iI,SS])))
      |true=>
       have bY:Dn p S e=true:=by simp[Dn,e1,e2,hb,iI,SS]
       rw[bY,zzdt]at ha;simp[h20,h3,cn,Qc,Qd,xu,s2,hw,qy];refine⟨aP,⟨i+1,bx++[Qd e],zd,zE,ha,by simp[h3],?_⟩,zE⟩
       ·rw[bD];simp[cn,Qc,Qd,mS]
  have bT:¬(i:Int)<(p.ens.length:Int):=zE
  rw[zzaj bu]at ha;have ha:Rb p [] p.ens=true:=by rw[<- ha];rfl
  simp[h20,bT,zzbj.2 bu,qy,sk,cn,Qc];exact pR _ rfl (Idle.bool _) (hK _ (by simp[Bf,h0,ha]))
 have y9:(4000:Int)<(p.ens.length:Int):=zE
 simp[MW,sk,cn,Qc,h0,y9];exact pR [] zd (Idle.bool _) (hK _ (by simp[Bf,h0]))
def Ea(p:Pl):Bool:=Jv p&&(X5 p&&(jy p&&(Bf p&&Qdn p)))
def pS(p:Pl):X1:=fun _ f _=>if f=132 then .bool (Jv p)else if f=136 then .bool (Qdn p)else .gd false .junk
def PlS(p:Pl):Prop:=p.sh.length<=1000000000/\p.aT.length<=1000000000/\p.ens.length<=1000000000/\p.bks.length<=8796093022208/\p.cls.length<=1000000000/\∀e∈p.ens,e.al.length<=8796093022208
def jJ(p:Pl)(h:PlS p):Pure Tryz.prog aD 83 [.agg (Qc p)] (.bool (Ea p)):=by
 obtain⟨l1,l2,l3,l4,l5,l6⟩:=h;have k44:=aeV p l1;have k48:=Q5 p l5;refine Qm ale (pS p) zd ?_;cases e1:Jv p with
 |false=>
  rw[e1]at k44;simp[ald,Pz,Qc,pS,Ea,e1];simpa[Qc]using k44
 |true=>
  rw[e1]at k44
  have hs:(1<=p.rg/\p.rg<=8)/\(1<=p.ln/\p.ln<=100000000):=by
   simp[Jv,wi]at e1;omega
  simp[ald,Qc,pS,Ea,e1];refine⟨by simpa[Qc]using k44,?_⟩;refine ae1 p l2 Y0 _ (fun e2=>?_) (fun e2 kI=>?_)
  ·simp[cn,Qc,pS,e2];refine ae2 p l4 hs.1 Y0 _ (fun e3=>?_) (fun e3 kB=>?_)
   ·simp[cn,Qc,pS,e3]
    have X7:xk p.aT=true:=by
     simp[X5]at e2;exact e2.2.2.1
    refine Rf p l3 l6 X7 hs.1 hs.2 Y0 _ fun b e4=>?_;cases b with
    |false=>simp[Pz,cn,Qc,pS,e4]
    |true=>
     simp[Pz,cn,Qc,pS,e4];simpa[Qc]using k48
   simp[Pz,cn,Qc,pS,e3]
  simp[Pz,cn,Qc,pS,e2]
