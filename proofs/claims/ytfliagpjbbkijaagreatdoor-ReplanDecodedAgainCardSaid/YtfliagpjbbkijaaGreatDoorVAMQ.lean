import Derived.Test.YtfliagpjbbkijaaGreatDoorVAMK
set_option linter.all false
set_option maxRecDepth 100000
set_option maxHeartbeats 64000000
namespace Go.Proofs.YtfliagpjbbkijaaGreatDoor
open Go Go.Abs
def Yw(n lo up:Int):Pure Tryz.prog aD 175 [I n,I lo,I up] (.bool (wi n lo up)):=by
 refine Qn ac2 (fun _ _ _=>.junk) zd ?_;by_cases h1:lo<=n<;>by_cases h2:n<=up<;>simp[ahR,ahS,wi,h1,h2]
def aji(e:It):Pure Tryz.prog aD 179 [.agg (Qm e)] (I e.id):=by
 refine Qn Nk (fun _ _ _=>.junk) zd ?_;simp[T4,Qm,T6]
def xG(e:Bk):Pure Tryz.prog aD 181 [.agg (Xk e)] (I e.id):=by
 refine Qn ac7 (fun _ _ _=>.junk) zd ?_;simp[ahT,Xk,ahU]
def xH(e:Sp):Pure Tryz.prog aD 214 [.agg (Qe e)] (I e.1):=by
 refine Qn adq (fun _ _ _=>.junk) zd ?_;simp[ah9,Qe,aia]
def S2(k:Int):Option Int->Bool
 |some q=>decide (k<=q)
 |none=>false
def Km(lo up:Int):Option Int->P2->Bool
 |_,[]=>true
 |pr,k::r=>if k<lo\/up<k\/S2 k pr=true then false else Km lo up (some k) r
def IW(ks:P2):Nat->Option Int
 |0=>none
 |i+1=>ks[i]?
def Qdq{ks:P2}{i:Nat}{k:Int}(h:ks[i]?=some k):IW ks (i+1)=some k:=h
def keyOf:PQ->Int
 |[.agg (.int _ n::_)]=>n
 |_=>0
def iF:X1:=fun _ _ l=>I (keyOf l)
def rG{lo up:Int}{ks:P2}{i:Nat}{k:Int}(h:ks[i]?=some k):Km lo up (IW ks i) (ks.drop i)=if k<lo\/up<k\/S2 k (IW ks i)=true then false else Km lo up (IW ks (i+1)) (ks.drop (i+1)):=by
 obtain⟨hi,hk⟩:=zza.1 h;rw[zzaf hi,hk,Km,Qdq h]
def Oi(s n:Nat)(R:Nat->Prop)(f:Nat->AV)(m:AM):Prop:=∃(i:Nat)(bx:X2),f s=I i/\i<=n/\R i/\m=⟨bx,[],fun _=>.gone,0⟩
def Q9(L:List It)(lo up:Int)(hl:L.length<=8796093022208):Pure Tryz.prog aD 178 [.sl .ro (L.map Qm),I lo,I up,.fn 179 [] []] (.bool (Km lo up none (L.map fun x=>x.id))):=by
 obtain⟨T,hT⟩:∃T,Km lo up none (L.map fun x=>x.id)=T:=⟨_,rfl⟩;rw[hT];refine Qn ac5 iF zd ?_;simp[T3];refine Qj mT (Oi 14 L.length fun i=>Km lo up (IW (L.map fun x=>x.id) i) ((L.map fun x=>x.id).drop i)=T) (fun f _=>L.length-(numOf (f 14)).toNat) ?_ ?_
 ·exact⟨0,_,zd,zE,by simpa[IW]using hT,rfl⟩
 rintro f m ⟨i,bx,ue,hi,ha,rfl⟩;rcases zzab i L.length with aa|bu
 ·obtain⟨x,hx⟩:=aY aa;have ai:Qg (L.map Qm) i=Qm x:=Qv (by simp[hx]);have ah:(i:Int)<(L.length:Int):=zE
  have hw:=bR i zE;have hk:=aji x;have YA:(L.map fun x=>x.id)[i]?=some x.id:=by simp[hx]
  rw[rG YA]at ha;by_cases c1:x.id<lo
  ·rw[if_pos (.inl c1)]at ha;subst ha;simp[ue,aa,ah,ai,Qm,iF,keyOf,c1,mT,vD];simpa[Qm]using hk
  by_cases c2:up<x.id
  ·rw[if_pos (.inr (.inl c2))]at ha;subst ha;simp[ue,aa,ah,ai,Qm,iF,keyOf,c1,c2,mT,vD];simpa[Qm]using hk
  cases i with
  |zero=>
   rw[if_neg (by simp[c1,c2,IW,S2])]at ha;have iL:IntKind.i64.wrap 1=1:=by decide
   simp[ue,aa,ah,ai,Qm,iF,keyOf,c1,c2,mT,vD,hw,iL];refine⟨by simpa[Qm]using hk,aR,⟨1,_,zd,zE,ha,rfl⟩,zE⟩
  |succ j=>
   have eS:j<L.length:=zE
   have sZ:(j:Int)<(L.length:Int):=zE
   obtain⟨y,hy⟩:=aY eS;have s5:Qg (L.map Qm) j=Qm y:=Qv (by simp[hy]);have hky:=aji y;have s7:IW (L.map fun x=>x.id) (j+1)=some y.id:=Qdq (by simp[hy]);have IX:IntKind.i64.wrap (((j+1:Nat):Int)-1)=(j:Int):=by rw[Qi]<;>omega
   have GB:IntKind.i64.wrap ((j:Int)+1-1)=(j:Int):=by rw[Qi]<;>omega
   have uH:IntKind.i64.wrap (j:Int)=(j:Int):=by rw[Qi]<;>omega
   have dL:(0:Int)<(j:Int)+1:=zE
   have S3:(0:Int)<=(j:Int):=zE
   have GC:(0:Int)<=(j:Int)+1:=zE
   have N8:¬(j:Int)<0:=zE
   have GD:(j:Int)+1<(L.length:Int):=zE
   have fE:IntKind.i64.wrap ((j:Int)+1+1)=((j+1+1:Nat):Int):=by rw[Qi]<;>omega
   by_cases c3:x.id<=y.id
   ·rw[if_pos (.inr (.inr (by rw[s7];simp[S2,c3])))]at ha;subst ha;simp[ue,aa,ah,GD,dL,S3,GC,N8,IX,GB,uH,eS,sZ,ai,s5,Qm,iF,keyOf,c1,c2,c3,mT,vD];exact⟨by simpa[Qm]using hk,by simpa[Qm]using hky⟩
   rw[if_neg (by rw[s7];simp[c1,c2,c3,S2])]at ha;simp[ue,aa,ah,GD,dL,S3,GC,N8,IX,GB,uH,eS,sZ,ai,s5,Qm,iF,keyOf,c1,c2,c3,mT,vD,fE];refine⟨by simpa[Qm]using hk,by simpa[Qm]using hky,aR,⟨j+1+1,_,zd,zE,ha,rfl⟩,zE⟩
 obtain rfl:i=L.length:=zE
 rw[zzam zd]at ha;have ha:true=T:=by rw[<- ha];simp[Km]
 subst ha;simp[ue,mT,vD]
def Ra(L:List Bk)(lo up:Int)(hl:L.length<=8796093022208):Pure Tryz.prog aD 180 [.sl .ro (L.map Xk),I lo,I up,.fn 181 [] []] (.bool (Km lo up none (L.map fun x=>x.id))):=by
 obtain⟨T,hT⟩:∃T,Km lo up none (L.map fun x=>x.id)=T:=⟨_,rfl⟩;rw[hT];refine Qn ac6 iF zd ?_;simp[T7];refine Qj mU (Oi 14 L.length fun i=>Km lo up (IW (L.map fun x=>x.id) i) ((L.map fun x=>x.id).drop i)=T) (fun f _=>L.length-(numOf (f 14)).toNat) ?_ ?_
 ·exact⟨0,_,zd,zE,by simpa[IW]using hT,rfl⟩
 rintro f m ⟨i,bx,ue,hi,ha,rfl⟩;rcases zzab i L.length with aa|bu
 ·obtain⟨x,hx⟩:=aY aa;have ai:Qg (L.map Xk) i=Xk x:=Qv (by simp[hx]);have ah:(i:Int)<(L.length:Int):=zE
  have hw:=bR i zE;have hk:=xG x;have YA:(L.map fun x=>x.id)[i]?=some x.id:=by simp[hx]
  rw[rG YA]at ha;by_cases c1:x.id<lo
  ·rw[if_pos (.inl c1)]at ha;subst ha;simp[ue,aa,ah,ai,Xk,iF,keyOf,c1,mU,vF];simpa[Xk]using hk
  by_cases c2:up<x.id
  ·rw[if_pos (.inr (.inl c2))]at ha;subst ha;simp[ue,aa,ah,ai,Xk,iF,keyOf,c1,c2,mU,vF];simpa[Xk]using hk
  cases i with
  |zero=>
   rw[if_neg (by simp[c1,c2,IW,S2])]at ha;have iL:IntKind.i64.wrap 1=1:=by decide
   simp[ue,aa,ah,ai,Xk,iF,keyOf,c1,c2,mU,vF,hw,iL];refine⟨by simpa[Xk]using hk,aR,⟨1,_,zd,zE,ha,rfl⟩,zE⟩
  |succ j=>
   have eS:j<L.length:=zE
   have sZ:(j:Int)<(L.length:Int):=zE
   obtain⟨y,hy⟩:=aY eS;have s5:Qg (L.map Xk) j=Xk y:=Qv (by simp[hy]);have hky:=xG y;have s7:IW (L.map fun x=>x.id) (j+1)=some y.id:=Qdq (by simp[hy]);have IX:IntKind.i64.wrap (((j+1:Nat):Int)-1)=(j:Int):=by rw[Qi]<;>omega
   have GB:IntKind.i64.wrap ((j:Int)+1-1)=(j:Int):=by rw[Qi]<;>omega
   have uH:IntKind.i64.wrap (j:Int)=(j:Int):=by rw[Qi]<;>omega
   have dL:(0:Int)<(j:Int)+1:=zE
   have S3:(0:Int)<=(j:Int):=zE
   have GC:(0:Int)<=(j:Int)+1:=zE
   have N8:¬(j:Int)<0:=zE
   have GD:(j:Int)+1<(L.length:Int):=zE
   have fE:IntKind.i64.wrap ((j:Int)+1+1)=((j+1+1:Nat):Int):=by rw[Qi]<;>omega
   by_cases c3:x.id<=y.id
   ·rw[if_pos (.inr (.inr (by rw[s7];simp[S2,c3])))]at ha;subst ha;simp[ue,aa,ah,GD,dL,S3,GC,N8,IX,GB,uH,eS,sZ,ai,s5,Xk,iF,keyOf,c1,c2,c3,mU,vF];exact⟨by simpa[Xk]using hk,by simpa[Xk]using hky⟩
   rw[if_neg (by rw[s7];simp[c1,c2,c3,S2])]at ha;simp[ue,aa,ah,GD,dL,S3,GC,N8,IX,GB,uH,eS,sZ,ai,s5,Xk,iF,keyOf,c1,c2,c3,mU,vF,fE];refine⟨by simpa[Xk]using hk,by simpa[Xk]using hky,aR,⟨j+1+1,_,zd,zE,ha,rfl⟩,zE⟩
 obtain rfl:i=L.length:=zE
 rw[zzam zd]at ha;have ha:true=T:=by rw[<- ha];simp[Km]
 subst ha;simp[ue,mU,vF]
def Rb(L:List Sp)(lo up:Int)(hl:L.length<=8796093022208):Pure Tryz.prog aD 213 [.sl .ro (L.map Qe),I lo,I up,.fn 214 [] []] (.bool (Km lo up none (L.map fun x=>x.1))):=by
 obtain⟨T,hT⟩:∃T,Km lo up none (L.map fun x=>x.1)=T:=⟨_,rfl⟩;rw[hT];refine Qn adp iF zd ?_;simp[UF];refine Qj mV (Oi 14 L.length fun i=>Km lo up (IW (L.map fun x=>x.1) i) ((L.map fun x=>x.1).drop i)=T) (fun f _=>L.length-(numOf (f 14)).toNat) ?_ ?_
 ·exact⟨0,_,zd,zE,by simpa[IW]using hT,rfl⟩
 rintro f m ⟨i,bx,ue,hi,ha,rfl⟩;rcases zzab i L.length with aa|bu
 ·obtain⟨x,hx⟩:=aY aa;have ai:Qg (L.map Qe) i=Qe x:=Qv (by simp[hx]);have ah:(i:Int)<(L.length:Int):=zE
  have hw:=bR i zE;have hk:=xH x;have YA:(L.map fun x=>x.1)[i]?=some x.1:=by simp[hx]
  rw[rG YA]at ha;by_cases c1:x.1<lo
  ·rw[if_pos (.inl c1)]at ha;subst ha;simp[ue,aa,ah,ai,Qe,iF,keyOf,c1,mV,vJ];simpa[Qe]using hk
  by_cases c2:up<x.1
  ·rw[if_pos (.inr (.inl c2))]at ha;subst ha;simp[ue,aa,ah,ai,Qe,iF,keyOf,c1,c2,mV,vJ];simpa[Qe]using hk
  cases i with
  |zero=>
   rw[if_neg (by simp[c1,c2,IW,S2])]at ha;have iL:IntKind.i64.wrap 1=1:=by decide
   simp[ue,aa,ah,ai,Qe,iF,keyOf,c1,c2,mV,vJ,hw,iL];refine⟨by simpa[Qe]using hk,aR,⟨1,_,zd,zE,ha,rfl⟩,zE⟩
  |succ j=>
   have eS:j<L.length:=zE
   have sZ:(j:Int)<(L.length:Int):=zE
   obtain⟨y,hy⟩:=aY eS;have s5:Qg (L.map Qe) j=Qe y:=Qv (by simp[hy]);have hky:=xH y;have s7:IW (L.map fun x=>x.1) (j+1)=some y.1:=Qdq (by simp[hy]);have IX:IntKind.i64.wrap (((j+1:Nat):Int)-1)=(j:Int):=by rw[Qi]<;>omega
   have GB:IntKind.i64.wrap ((j:Int)+1-1)=(j:Int):=by rw[Qi]<;>omega
   have uH:IntKind.i64.wrap (j:Int)=(j:Int):=by rw[Qi]<;>omega
   have dL:(0:Int)<(j:Int)+1:=zE
   have S3:(0:Int)<=(j:Int):=zE
   have GC:(0:Int)<=(j:Int)+1:=zE
   have N8:¬(j:Int)<0:=zE
   have GD:(j:Int)+1<(L.length:Int):=zE
   have fE:IntKind.i64.wrap ((j:Int)+1+1)=((j+1+1:Nat):Int):=by rw[Qi]<;>omega
   by_cases c3:x.1<=y.1
   ·rw[if_pos (.inr (.inr (by rw[s7];simp[S2,c3])))]at ha;subst ha;simp[ue,aa,ah,GD,dL,S3,GC,N8,IX,GB,uH,eS,sZ,ai,s5,Qe,iF,keyOf,c1,c2,c3,mV,vJ];exact⟨by simpa[Qe]using hk,by simpa[Qe]using hky⟩
   rw[if_neg (by rw[s7];simp[c1,c2,c3,S2])]at ha;simp[ue,aa,ah,GD,dL,S3,GC,N8,IX,GB,uH,eS,sZ,ai,s5,Qe,iF,keyOf,c1,c2,c3,mV,vJ,fE];refine⟨by simpa[Qe]using hk,by simpa[Qe]using hky,aR,⟨j+1+1,_,zd,zE,ha,rfl⟩,zE⟩
 obtain rfl:i=L.length:=zE
 rw[zzam zd]at ha;have ha:true=T:=by rw[<- ha];simp[Km]
 subst ha;simp[ue,mV,vJ]
def Ji(p:Pl):Bool:=wi p.ch 0 39&&(Vg p.nu p.de&&(Yb p.of p.sh&&(wi p.ep 0 9000000000&&(wi p.rg 1 8&&wi p.ln 1 100000000))))
def xI(p:Pl):X1:=fun _ f l=>
 if f=176 then .bool (Vg p.nu p.de)else if f=177 then .bool (Yb p.of p.sh)else(match l with|[.int _ n,.int _ lo,.int _ up]=>.bool (wi n lo up)|_=>.junk)
def aeM(p:Pl)(fP:p.sh.length<=1000000000):Pure Tryz.prog aD 132 [.ep (Qa p++[.junk,.junk]) 0] (.bool (Ji p)):=by
 have h1:=Yw p.ch 0 39;have h2:=Wm p.nu p.de;have h3:=jq p.of p.sh fP;have h4:=Yw p.ep 0 9000000000;have h5:=Yw p.rg 1 8;have h6:=Yw p.ln 1 100000000;refine Qn acu (xI p) zd ?_;cases e1:wi p.ch 0 39 with
 |false=>rw[e1]at h1;simp[vp,vq,Qa,xI,Ji,e1];exact h1
 |true=>
  rw[e1]at h1;cases e2:Vg p.nu p.de with
  |false=>rw[e2]at h2;simp[vp,vq,Qa,xI,Ji,e1,e2];exact⟨h1,h2⟩
  |true=>
   rw[e2]at h2;cases e3:Yb p.of p.sh with
   |false=>rw[e3]at h3;simp[vp,vq,Qa,xI,Ji,e1,e2,e3];exact⟨h1,h2,h3⟩
   |true=>
    rw[e3]at h3;cases e4:wi p.ep 0 9000000000 with
    |false=>rw[e4]at h4;simp[vp,vq,Qa,xI,Ji,e1,e2,e3,e4];exact⟨h1,h2,h3,h4⟩
    |true=>
     rw[e4]at h4;cases e5:wi p.rg 1 8 with
     |false=>rw[e5]at h5;simp[vp,vq,Qa,xI,Ji,e1,e2,e3,e4,e5];exact⟨h1,h2,h3,h4,h5⟩
     |true=>rw[e5]at h5;simp[vp,vq,Qa,xI,Ji,e1,e2,e3,e4,e5];exact⟨h1,h2,h3,h4,h5,h6⟩
def aeN:List Cl->Bool
 |[]=>true
 |c::r=>Xv c&&aeN r
def Qdi(p:Pl):Bool:=decide (p.cls.length<=400)&&aeN p.cls
def Bz:X1:=fun _ _ l=>match l with
 |[.agg [.int _ a,.int _ b,.int _ c,.int _ d,.int _ e,.int _ f,.int _ g,.int _ h]]=>.bool (Xv ⟨a,b,c,d,e,f,g,h⟩)
 |_=>.junk
def Rf(p:Pl)(hc:p.cls.length<=1000000000):Pure Tryz.prog aD 136 [.ep (Qa p++[.junk,.junk]) 0] (.bool (Qdi p)):=by
 refine Qn acz Bz zd ?_;by_cases h0:p.cls.length<=400
 ·have zJ:¬(400:Int)<(p.cls.length:Int):=zE
  obtain⟨T,hT⟩:∃T,Qdi p=T:=⟨_,rfl⟩;rw[hT];simp[TM,Qa,h0,zJ];refine Qj Cv (Oi 18 p.cls.length fun i=>aeN (p.cls.drop i)=T) (fun f _=>p.cls.length-(numOf (f 18)).toNat) ?_ ?_
  ·exact⟨0,_,zd,zE,by rw[<- hT];simp[Qdi,h0],rfl⟩
  rintro f m ⟨i,bx,h18,hi,ha,rfl⟩;rcases zzab i p.cls.length with aa|bu
  ·obtain⟨x,hx⟩:=aY aa;have ai:Qg (p.cls.map Qh) i=Qh x:=Qv (by simp[hx]);have ah:(i:Int)<(p.cls.length:Int):=zE
   have hw:=bR i zE;have hk:=Kq x;rw[Zb hx,aeN]at ha;cases hv:Xv x with
   |false=>
    rw[hv]at ha hk;simp at ha;simp[h18,aa,ah,ai,Qh,Bz,hv,Cv,ET,ha];simpa[Qh]using hk
   |true=>
    rw[hv]at ha hk;simp at ha;simp[h18,aa,ah,ai,Qh,Bz,hv,Cv,ET,hw];refine⟨by simpa[Qh]using hk,aR,⟨i+1,_,zd,zE,ha,rfl⟩,zE⟩
  obtain rfl:i=p.cls.length:=zE
  rw[zzbx]at ha;have ha:true=T:=ha;subst ha;simp[h18,Cv,ET]
 have zJ:(400:Int)<(p.cls.length:Int):=zE
 simp[TM,ET,Qa,Qdi,h0,zJ]
def mI(l:List It):List (P2×AV):=l.map fun x=>([x.id],.agg (Qm x))
def mK(l:List Bk):List (P2×AV):=l.map fun x=>([x.id],.agg (Xk x))
def GF(id:Int):List Bk->Option Bk
 |[]=>none
 |x::r=>if x.id=id then some x else GF id r
def xJ{k:P2}:∀{kvs:List (P2×AV)}{i:Nat},(∀p∈kvs,p.1≠k)->Xi k kvs i=none
 |[],_,_=>rfl
 |(k',a)::r,i,h=>by
  rw[Xi,if_neg (fun e=>h (k',a) zd e.symm)];exact xJ fun p hp=>h p (by simp[hp])
def amg(id:Int):∀(l:List It)(i:Nat),(Xg id l=none->Xi [id] (mI l) i=none)/\∀x,Xg id l=some x->∃n,Xi [id] (mI l) i=some (n,.agg (Qm x))
 |[],i=>⟨fun _=>rfl,fun x h=>by cases h⟩
 |y::r,i=>by
  have ih:=amg id r (i+1);simp only[mI,zzay,Xi,Xg]at ih |-
  by_cases h:y.id=id
  ·rw[if_pos h,if_pos (by rw[h])];exact⟨fun h=>(by cases h),fun x h=>(by cases h;exact⟨i,rfl⟩)⟩
  rw[if_neg h,if_neg (by intro e;cases e;exact h rfl)];exact ih
def asp(id:Int):∀(l:List Bk)(i:Nat),(GF id l=none->Xi [id] (mK l) i=none)/\∀x,GF id l=some x->∃n,Xi [id] (mK l) i=some (n,.agg (Xk x))
 |[],i=>⟨fun _=>rfl,fun x h=>by cases h⟩
 |y::r,i=>by
  have ih:=asp id r (i+1);simp only[mK,zzay,Xi,GF]at ih |-
  by_cases h:y.id=id
  ·rw[if_pos h,if_pos (by rw[h])];exact⟨fun h=>(by cases h),fun x h=>(by cases h;exact⟨i,rfl⟩)⟩
  rw[if_neg h,if_neg (by intro e;cases e;exact h rfl)];exact ih
def kW{lo up:Int}:∀{ks:P2}{pr:Option Int},Km lo up pr ks=true->ks.Pairwise (·<·)/\∀k∈ks,lo<=k/\k<=up/\∀q,pr=some q->q<k
 |[],pr,_=>⟨List.Pairwise.nil,fun k hk=>by cases hk⟩
 |k::r,pr,h=>by
  rw[Km]at h;split at h
  ·cases h
  rename_i hn;simp only[not_or]at hn;obtain⟨h1,h2⟩:=kW h
  have hk:∀q,pr=some q->q<k:=fun q hq=>by
   have:=hn.2.2;subst hq;simp[S2]at this;omega
  refine⟨zzbz.2 ⟨fun a ha=>(h2 a ha).2.2 k rfl,h1⟩,fun a ha=>?_⟩;rcases zzao.1 ha with rfl|ha
  ·exact⟨zE,zE,hk⟩
  obtain⟨g1,g2,g3⟩:=h2 a ha;refine⟨g1,g2,fun q hq=>?_⟩;have:=hk q hq;have:=g3 k rfl;omega
def xK{α:Type}{key:α->Int}{row:α->AV}{l:List α}{i:Nat}{x:α}(h:(l.map key).Pairwise (·<·))(hx:l[i]?=some x):Xi [key x] ((l.take i).map fun x=>([key x],row x)) 0=none:=by
 refine xJ fun p hp=>?_;obtain⟨y,hy,rfl⟩:=zzbh.1 hp;obtain⟨j,hj,ot⟩:=zzfz hy;rw[zzaq]at hj;rw[List.getElem_take]at ot;obtain⟨hi,hx⟩:=zza.1 hx
 have aa:key l[j]<key l[i]:=by
  have:=zzdr.1 h j i (by simp;omega) (Pi hi) zE;simpa using this
 intro e;rw[<- ot,<- hx]at e;simp only[List.cons.injEq,and_true]at e;omega
def S4(x:It):Bool:=wi x.ki 1 5&&(wi x.fr 1 100000000&&(wi x.sp 0 200&&wi x.ra 0 3))
def xL:List It->Bool
 |[]=>true
 |x::r=>S4 x&&xL r
def wN(p:Pl):Bool:=match Xg p.fi p.aO with
 |some x=>decide (x.ki=5)
 |none=>false
def Wy(p:Pl):Bool:=decide (p.aO.length<=4000)&&(Km 1 1000000 none (p.aO.map fun x=>x.id)&&(xL p.aO&&wN p))
def cn(p:Pl)(kI kB:List (P2×AV))(bx:X2):AM:=⟨Qa p::[.aL 0 kI]::[.aL 0 kB]::(Qa p++[.mp 1,.mp 2])::bx,[],fun _=>.gone,0⟩
def aeO(x:It):Idle (.agg (Qm x)):=Idle.agg fun c hc=>by
 simp only[Qm,zzao,zzcn,or_false]at hc;rcases hc with rfl|rfl|rfl|rfl|rfl<;>exact Idle.int _ _
def aeP(x:Bk):Idle (.agg (Xk x)):=Idle.agg fun c hc=>by
 simp only[Xk,zzao,zzcn,or_false]at hc;rcases hc with rfl|rfl|rfl|rfl|rfl|rfl|rfl<;>exact Idle.int _ _
def BkK(p:Pl)(K:UV)(r:AV)(m:AM):Prop:=∃kI kB bx,m=cn p kI kB bx/\(∀e∈kI,Idle e.2)/\(∀e∈kB,Idle e.2)/\Idle r/\K r (cn p kI kB [])
def BA{p:Pl}{K:UV}{r:AV}{m:AM}(kI kB:List (P2×AV))(bx:X2)(hm:m=cn p kI kB bx)(h1:∀e∈kI,Idle e.2)(h2:∀e∈kB,Idle e.2)(h3:Idle r)(h4:K r (cn p kI kB [])):BkK p K r m:=⟨kI,kB,bx,hm,h1,h2,h3,h4⟩
def s8{f:FuncId}{xs:PQ}{p:Pl}{Y:YT}{k0 b0:List (P2×AV)}{K:UV}
  (h:aA Tryz.prog aD Y f xs (cn p k0 b0 []) (BkK p K)):aA Tryz.prog aD Y f xs (cn p k0 b0 []) K:=by
 refine aA.forget (aA.mono h ?_);rintro r m' ⟨kI,kB,bx,rfl,h1,h2,h3,h4⟩;refine⟨cn p kI kB [],bx,rfl,rfl,rfl,fun id cells hc=>?_,h3,h4⟩
 match id,hc with
 |0,hc=>exact .inl hc
 |1,hc=>cases hc;exact .inr (.inr ⟨0,kI,rfl,h1⟩)
 |2,hc=>cases hc;exact .inr (.inr ⟨0,kB,rfl,h2⟩)
 |3,hc=>exact .inl hc
 |n+4,hc=>cases hc
def pU(p:Pl):X1:=fun _ f l=>
 if f=178 then .bool (Km 1 1000000 none (p.aO.map fun x=>x.id))else(match l with|[.int _ n,.int _ lo,.int _ up]=>.bool (wi n lo up)|_=>.junk)
def Vr(l:List It):∀e∈mI l,Idle e.2:=fun e he=>by
 obtain⟨x,_,rfl⟩:=zzbh.1 he;exact aeO x
def Qar(l:List Bk):∀e∈mK l,Idle e.2:=fun e he=>by
 obtain⟨x,_,rfl⟩:=zzbh.1 he;exact aeP x
def aeQ{l:List It}{i:Nat}{x:It}(h:l[i]?=some x):mI (l.take (i+1))=mI (l.take i)++[([x.id],.agg (Qm x))]:=by
 simp[mI,zzax,h]
def aeR{l:List Bk}{i:Nat}{x:Bk}(h:l[i]?=some x):mK (l.take (i+1))=mK (l.take i)++[([x.id],.agg (Xk x))]:=by
 simp[mK,zzax,h]
def Uv{P:P2×AV->Prop}:∀e∈([]:List (P2×AV)),P e:=fun e h=>by cases h
def ajj(s n:Nat)(p:Pl)(kI kB:Nat->List (P2×AV))(R:Nat->Prop)(f:Nat->AV)(m:AM):Prop:=∃(i:Nat)(bx:X2),f s=I i/\i<=n/\R i/\m=cn p (kI i) (kB i) bx
def aeS(p:Pl)(hl:p.aO.length<=1000000000)(Y:YT)(K:UV)(SS:Wy p=true->K (.bool true) (cn p (mI p.aO) [] []))(rH:Wy p=false->∀kI,K (.bool false) (cn p kI [] [])):
  aA Tryz.prog aD Y 133 [.ptr 3 0] (cn p [] [] []) K:=by
 have k90:=Q9 p.aO 1 1000000 zE;refine s8 ?_;refine Xh acv (pU p) zd ?_;by_cases h0:p.aO.length<=4000
 ·have zJ:¬(4000:Int)<(p.aO.length:Int):=zE
  cases ha:Km 1 1000000 none (p.aO.map fun x=>x.id)with
  |false=>
   rw[ha]at k90;simp[ER,oG,cn,Qa,h0,zJ,pU,ha];exact⟨k90,BA _ _ _ rfl Uv Uv (Idle.bool _) (rH (by simp[Wy,ha]) [])⟩
  |true=>
   rw[ha]at k90;have hp:=(kW ha).1;simp[ER,cn,Qa,h0,zJ,pU,ha];refine⟨k90,?_⟩;refine Qj iO (ajj 27 p.aO.length p (fun i=>mI (p.aO.take i)) (fun _=>[]) fun i=>xL (p.aO.drop i)=xL p.aO) (fun f _=>p.aO.length-(numOf (f 27)).toNat) ?_ ?_
   ·exact⟨0,[],zd,zE,zd,by simp[cn,Qa,mI]⟩
   rintro f m ⟨i,bx,h27,hi,fk,rfl⟩;rcases zzab i p.aO.length with aa|bu
   ·obtain⟨x,hx⟩:=aY aa;have ai:Qg (p.aO.map Qm) i=Qm x:=Qv (by simp[hx]);have ah:(i:Int)<(p.aO.length:Int):=zE
    have hw:=bR i zE;have hkf:Xi [x.id] (mI (p.aO.take i)) 0=none:=xK (key:=fun x=>x.id) (row:=fun x=>.agg (Qm x)) hp hx;have bB:=aeQ hx;rw[Zb hx,xL]at fk;have h1:=Yw x.ki 1 5;have h2:=Yw x.fr 1 100000000;have h3:=Yw x.sp 0 200;have h4:=Yw x.ra 0 3;have bad:S4 x=false->Wy p=false:=fun h=>by rw[h]at fk;simp[Wy,<- fk]
    cases e1:wi x.ki 1 5 with
    |false=>
     rw[e1]at h1;simp[h27,aa,ah,ai,Qm,cn,Qa,pU,e1,iO,oG];exact⟨h1,BA _ _ _ rfl (Vr _) Uv (Idle.bool _) (rH (bad (by simp[S4,e1])) _)⟩
    |true=>
     rw[e1]at h1;cases e2:wi x.fr 1 100000000 with
     |false=>
      rw[e2]at h2;simp[h27,aa,ah,ai,Qm,cn,Qa,pU,e1,e2,iO,oG];exact⟨h1,h2,BA _ _ _ rfl (Vr _) Uv (Idle.bool _) (rH (bad (by simp[S4,e1,e2])) _)⟩
     |true=>
      rw[e2]at h2;cases e3:wi x.sp 0 200 with
      |false=>
       rw[e3]at h3;simp[h27,aa,ah,ai,Qm,cn,Qa,pU,e1,e2,e3,iO,oG];exact⟨h1,h2,h3,BA _ _ _ rfl (Vr _) Uv (Idle.bool _) (rH (bad (by simp[S4,e1,e2,e3])) _)⟩
      |true=>
       rw[e3]at h3;cases e4:wi x.ra 0 3 with
       |false=>
        rw[e4]at h4;simp[h27,aa,ah,ai,Qm,cn,Qa,pU,e1,e2,e3,e4,iO,oG];exact⟨h1,h2,h3,h4,BA _ _ _ rfl (Vr _) Uv (Idle.bool _) (rH (bad (by simp[S4,e1,e2,e3,e4])) _)⟩
       |true=>
        rw[e4]at h4;have ck:S4 x=true:=by simp[S4,e1,e2,e3,e4]
        rw[ck,zzea]at fk;simp[h27,aa,ah,ai,Qm,cn,Qa,pU,e1,e2,e3,e4,iO,hw,hkf];refine⟨h1,h2,h3,h4,aR,⟨i+1,bx++[Qm x],zd,zE,fk,?_⟩,zE⟩
        ·simp only[bB];simp[Qm,cn,Qa]
   have bU:¬(i:Int)<(p.aO.length:Int):=zE
   rw[zzam bu]at fk;have iJ:p.aO.take i=p.aO:=zzal bu;simp only[iJ];have fk:xL p.aO=true:=by rw[<- fk];rfl
   obtain⟨g1,g2⟩:=amg p.fi p.aO 0;cases hf:Xg p.fi p.aO with
   |none=>
    have g:=g1 hf;simp[h27,bU,iO,oG,cn,Qa,g];exact BA _ _ _ rfl (Vr _) Uv (Idle.bool _) (rH (by simp[Wy,wN,hf]) _)
   |some x=>
    obtain⟨n,g⟩:=g2 x hf;simp[h27,bU,iO,oG,cn,Qa,g,Qm];by_cases h5:x.ki=5
    ·simp only[h5];exact BA _ _ _ rfl (Vr _) Uv (Idle.bool _) (SS (by simp[Wy,wN,hf,h0,ha,fk,h5]))
    have h5':(x.ki==5)=false:=by simpa using h5
    rw[h5'];exact BA _ _ _ rfl (Vr _) Uv (Idle.bool _) (rH (by simp[Wy,wN,hf,h5]) _)
 have zJ:(4000:Int)<(p.aO.length:Int):=zE
 simp[ER,oG,cn,Qa,h0,zJ,pU];exact BA _ _ _ rfl Uv Uv (Idle.bool _) (rH (by simp[Wy,h0]) [])
def DE(x:Bk):Bool:=decide (0<=x.fr)&&(decide (x.fr<x.to)&&(decide (x.to<=x.un)&&decide (x.un<=100000000)))
def kindOf(p:Pl)(id:Int):Int:=match Xg id p.aO with
 |some y=>y.ki
 |none=>0
def YB(p:Pl)(x:Bk):Bool:=decide (kindOf p x.it=2)&&(wi x.re 0 (p.rg-1)&&(DE x&&wi x.pr 0 1000000000))
def Rg(p:Pl):List Bk->Bool
 |[]=>true
 |x::r=>YB p x&&Rg p r
def jx(p:Pl):Bool:=decide (p.bks.length<=2000)&&(Km 1 1000000 none (p.bks.map fun x=>x.id)&&Rg p p.bks)
def DF(p:Pl)(id:Int):∃r,Xi [id] (mI p.aO) 0=r/\((∃n x,Xg id p.aO=some x/\r=some (n,.agg (Qm x)))\/(Xg id p.aO=none/\r=none)):=by
 obtain⟨g1,g2⟩:=amg id p.aO 0;cases hf:Xg id p.aO with
 |none=>exact⟨_,rfl,.inr ⟨rfl,g1 hf⟩⟩
 |some x=>
  obtain⟨n,g⟩:=g2 x hf;exact⟨_,rfl,.inl ⟨n,x,rfl,g⟩⟩
def Rh(p:Pl):X1:=fun _ f l=>
 if f=180 then .bool (Km 1 1000000 none (p.bks.map fun x=>x.id))else(match l with|[.int _ n,.int _ lo,.int _ up]=>.bool (wi n lo up)|_=>.junk)
def aeT(p:Pl)(hl:p.bks.length<=8796093022208)(Oj:1<=p.rg/\p.rg<=8)(Y:YT)(K:UV)(SS:jx p=true->K (.bool true) (cn p (mI p.aO) (mK p.bks) []))(rH:jx p=false->∀kB,K (.bool false) (cn p (mI p.aO) kB [])):
  aA Tryz.prog aD Y 134 [.ptr 3 0] (cn p (mI p.aO) [] []) K:=by
 have k90:=Ra p.bks 1 1000000 hl;refine s8 ?_;refine Xh acw (Rh p) zd ?_;by_cases h0:p.bks.length<=2000
 ·have zJ:¬(2000:Int)<(p.bks.length:Int):=zE
  cases ha:Km 1 1000000 none (p.bks.map fun x=>x.id)with
  |false=>
   rw[ha]at k90;simp[ES,fQ,cn,Qa,h0,zJ,Rh,ha];exact⟨k90,BA _ _ _ rfl (Vr _) Uv (Idle.bool _) (rH (by simp[jx,ha]) [])⟩
  |true=>
   rw[ha]at k90;have hp:=(kW ha).1;simp[ES,cn,Qa,h0,zJ,Rh,ha];refine⟨k90,?_⟩;refine Qj eN (ajj 28 p.bks.length p (fun _=>mI p.aO) (fun i=>mK (p.bks.take i)) fun i=>Rg p (p.bks.drop i)=Rg p p.bks) (fun f _=>p.bks.length-(numOf (f 28)).toNat) ?_ ?_
   ·exact⟨0,[],zd,zE,zd,by simp[cn,Qa,mK]⟩
   rintro f m ⟨i,bx,h28,hi,fk,rfl⟩;rcases zzab i p.bks.length with aa|bu
   ·obtain⟨x,hx⟩:=aY aa;have ai:Qg (p.bks.map Xk) i=Xk x:=Qv (by simp[hx]);have ah:(i:Int)<(p.bks.length:Int):=zE
    have hw:=bR i zE;have rE:IntKind.i64.wrap (p.rg-1)=p.rg-1:=by rw[Qi]<;>omega
    have hkf:Xi [x.id] (mK (p.bks.take i)) 0=none:=xK (key:=fun x=>x.id) (row:=fun x=>.agg (Xk x)) hp hx;have bB:=aeR hx;rw[Zb hx,Rg]at fk;have h1:=Yw x.re 0 (p.rg-1);have h2:=Yw x.pr 0 1000000000;have bad:YB p x=false->jx p=false:=fun h=>by rw[h]at fk;simp[jx,<- fk]
    obtain⟨r,hr,Ri⟩:=DF p x.it;by_cases fM:kindOf p x.it=2
    ·obtain⟨n,y,hf,rfl⟩|⟨hf,rfl⟩:=Ri
     ·have hy:y.ki=2:=by simpa[kindOf,hf]using fM
      cases e1:wi x.re 0 (p.rg-1)with
      |false=>
       rw[e1]at h1;simp[h28,aa,ah,ai,Xk,cn,Qa,Rh,hr,Qm,hy,rE,e1,eN,fQ];exact⟨h1,BA _ _ _ rfl (Vr _) (Qar _) (Idle.bool _) (rH (bad (by simp[YB,e1])) _)⟩
      |true=>
       rw[e1]at h1;cases e2:DE x with
       |false=>
        have e2':¬(0<=x.fr)\/(0<=x.fr/\¬x.fr<x.to)\/(0<=x.fr/\x.fr<x.to/\¬x.to<=x.un)\/(0<=x.fr/\x.fr<x.to/\x.to<=x.un/\¬x.un<=100000000):=by
         simp[DE]at e2;omega
        obtain c1|⟨c1,c2⟩|⟨c1,c2,c3⟩|⟨c1,c2,c3,c4⟩:=e2'
        ·simp[h28,aa,ah,ai,Xk,cn,Qa,Rh,hr,Qm,hy,rE,e1,c1,eN,fQ];exact⟨h1,BA _ _ _ rfl (Vr _) (Qar _) (Idle.bool _) (rH (bad (by simp[YB,e1,e2])) _)⟩
        ·simp[h28,aa,ah,ai,Xk,cn,Qa,Rh,hr,Qm,hy,rE,e1,c1,c2,eN,fQ];exact⟨h1,BA _ _ _ rfl (Vr _) (Qar _) (Idle.bool _) (rH (bad (by simp[YB,e1,e2])) _)⟩
        ·simp[h28,aa,ah,ai,Xk,cn,Qa,Rh,hr,Qm,hy,rE,e1,c1,c2,c3,eN,fQ];exact⟨h1,BA _ _ _ rfl (Vr _) (Qar _) (Idle.bool _) (rH (bad (by simp[YB,e1,e2])) _)⟩
        simp[h28,aa,ah,ai,Xk,cn,Qa,Rh,hr,Qm,hy,rE,e1,c1,c2,c3,c4,eN,fQ];exact⟨h1,BA _ _ _ rfl (Vr _) (Qar _) (Idle.bool _) (rH (bad (by simp[YB,e1,e2])) _)⟩
       |true=>
        have e2':0<=x.fr/\x.fr<x.to/\x.to<=x.un/\x.un<=100000000:=by
         simp[DE]at e2;omega
        obtain⟨c1,c2,c3,c4⟩:=e2';cases e3:wi x.pr 0 1000000000 with
        |false=>
         rw[e3]at h2;simp[h28,aa,ah,ai,Xk,cn,Qa,Rh,hr,Qm,hy,rE,e1,c1,c2,c3,c4,e3,eN,fQ];exact⟨h1,h2,BA _ _ _ rfl (Vr _) (Qar _) (Idle.bool _) (rH (bad (by simp[YB,e1,e2,e3])) _)⟩
        |true=>
         rw[e3]at h2;have ck:YB p x=true:=by simp[YB,fM,e1,e2,e3]
         rw[ck,zzea]at fk;simp[h28,aa,ah,ai,Xk,cn,Qa,Rh,hr,Qm,hy,rE,e1,c1,c2,c3,c4,e3,eN,fQ,hw,hkf];refine⟨h1,h2,aR,⟨i+1,bx++[Xk x],zd,zE,fk,?_⟩,zE⟩
         ·simp only[bB];simp[Xk,cn,Qa]
     simp[kindOf,hf]at fM
    have hb:=bad (by simp[YB,fM]);obtain⟨n,y,hf,rfl⟩|⟨hf,rfl⟩:=Ri
    ·have hy:¬y.ki=2:=by simpa[kindOf,hf]using fM
     simp[h28,aa,ah,ai,Xk,cn,Qa,Rh,hr,Qm,hy,rE,eN,fQ];exact BA _ _ _ rfl (Vr _) (Qar _) (Idle.bool _) (rH hb _)
    simp[h28,aa,ah,ai,Xk,cn,Qa,Rh,hr,Qm,rE,eN,fQ];exact BA _ _ _ rfl (Vr _) (Qar _) (Idle.bool _) (rH hb _)
   have bU:¬(i:Int)<(p.bks.length:Int):=zE
   rw[zzam bu]at fk;have iJ:p.bks.take i=p.bks:=zzal bu;simp only[iJ];have fk:Rg p p.bks=true:=by rw[<- fk];rfl
   simp[h28,bU,eN,fQ,cn,Qa];exact BA _ _ _ rfl (Vr _) (Qar _) (Idle.bool _) (SS (by simp[jx,h0,ha,fk]))
 have zJ:(2000:Int)<(p.bks.length:Int):=zE
 simp[ES,fQ,cn,Qa,h0,zJ,Rh];exact BA _ _ _ rfl (Vr _) Uv (Idle.bool _) (rH (by simp[jx,h0]) [])
def RdK(m:AM)(K:UV)(r:AV)(m':AM):Prop:=∃ex,m'={m with boxes:=m.boxes++ex}/\Idle r/\K r m
def pV{m:AM}{K:UV}{r:AV}{m':AM}(ex:X2)(hm:m'={m with boxes:=m.boxes++ex})(hi:Idle r)(hK:K r m):RdK m K r m':=⟨ex,hm,hi,hK⟩
def Kt{f:FuncId}{xs:PQ}{m:AM}{Y:YT}{K:UV}(h:aA Tryz.prog aD Y f xs m (RdK m K)):aA Tryz.prog aD Y f xs m K:=by
 refine aA.mono (aA.read (K:=fun r=>K r m) (aA.mono h fun r m' h=>h)) ?_;rintro r m' ⟨rfl,h⟩;exact h
def pW:∀{l:List It},xL l=true->∀x∈l,S4 x=true
 |y::r,h,x,hx=>by
  rw[xL,zzai]at h;rcases zzao.1 hx with rfl|hx
  ·exact h.1
  exact pW h.2 x hx
def YC{x:It}(h:S4 x=true):(1<=x.ki/\x.ki<=5)/\(1<=x.fr/\x.fr<=100000000)/\(0<=x.sp/\x.sp<=200)/\(0<=x.ra/\x.ra<=3):=by
 simp only[S4,wi,zzai,decide_eq_true_eq]at h;exact h
def jy(p:Pl)(e:En):Bool:=match Xg e.it p.aO with
 |none=>false
 |some y=>if y.ki=5 then false else if wi e.fr 1 y.fr=false then false else if y.ki≠4/\e.fr≠y.fr then false else decide (0<=e.ea)&&(decide (e.ea<=e.la)&&decide (e.la<=p.ln-e.fr))
def jH:X1:=fun _ f l=>match l with|[.int _ n,.int _ lo,.int _ up]=>.bool (wi n lo up)|_=>.junk
def amh(p:Pl)(e:En)(kB:List (P2×AV))(bx:X2)(YD:xL p.aO=true)(ei:1<=p.ln/\p.ln<=100000000)(Y:YT)(K:UV)(hK:∀b,jy p e=b->K (.bool b) (cn p (mI p.aO) kB bx)):
  aA Tryz.prog aD Y 182 [.ptr 3 0,.agg (Qd e)] (cn p (mI p.aO) kB bx) K:=by
 refine Kt (Xh ac8 jH zd ?_);obtain⟨r,hr,Ri⟩:=DF p e.it;simp[ahV,ahW,cn,Qa,Qd];refine Ui ?_;obtain⟨n,y,hf,rfl⟩|⟨hf,rfl⟩:=Ri
 ·obtain⟨g1,g2,g3,g4⟩:=YC (pW YD y (wU hf).1);have h1:=Yw e.fr 1 y.fr;by_cases c1:y.ki=5
  ·simp[hr,Qm,c1];exact pV _ rfl (Idle.bool _) (hK _ (by simp[jy,hf,c1]))
  cases c2:wi e.fr 1 y.fr with
  |false=>
   rw[c2]at h1;simp[hr,Qm,c1,c2,jH];exact⟨h1,pV _ rfl (Idle.bool _) (hK _ (by simp[jy,hf,c1,c2]))⟩
  |true=>
   rw[c2]at h1;have c2':1<=e.fr/\e.fr<=y.fr:=by simpa[wi]using c2
   have hw:IntKind.i64.wrap (p.ln-e.fr)=p.ln-e.fr:=by rw[Qi]<;>omega
   by_cases c3:y.ki≠4/\e.fr≠y.fr
   ·simp[hr,Qm,c1,c2,jH,c3.1,c3.2];exact⟨h1,pV _ rfl (Idle.bool _) (hK _ (by simp[jy,hf,c1,c2,c3.1,c3.2]))⟩
   have fin:∀b,(decide (0<=e.ea)&&(decide (e.ea<=e.la)&&decide (e.la<=p.ln-e.fr)))=b->jy p e=b:=fun b hb=>by
    rw[jy,hf];simp only;rw[if_neg c1,if_neg (by simp[c2]),if_neg c3];exact hb
   have c3':y.ki=4\/(¬y.ki=4/\e.fr=y.fr):=by
    by_cases h:y.ki=4
    ·exact .inl h
    exact .inr ⟨h,by by_cases h':e.fr=y.fr;exact h';exact absurd ⟨h,h'⟩ c3⟩
   by_cases d1:0<=e.ea
   ·by_cases d2:e.ea<=e.la
    ·by_cases d3:e.la<=p.ln-e.fr
     ·obtain c|⟨c,c'⟩:=c3'
      ·simp[hr,Qm,c1,c2,jH,c,hw,d1,d2,d3];exact⟨h1,pV _ rfl (Idle.bool _) (hK _ (fin _ (by simp[d1,d2,d3])))⟩
      rw[<- c']at c2 h1;simp[hr,Qm,c1,c2,jH,c,<- c',hw,d1,d2,d3];exact⟨h1,pV _ rfl (Idle.bool _) (hK _ (fin _ (by simp[d1,d2,d3])))⟩
     obtain c|⟨c,c'⟩:=c3'
     ·simp[hr,Qm,c1,c2,jH,c,hw,d1,d2,d3];exact⟨h1,pV _ rfl (Idle.bool _) (hK _ (fin _ (by simp[d1,d2,d3])))⟩
     rw[<- c']at c2 h1;simp[hr,Qm,c1,c2,jH,c,<- c',hw,d1,d2,d3];exact⟨h1,pV _ rfl (Idle.bool _) (hK _ (fin _ (by simp[d1,d2,d3])))⟩
    obtain c|⟨c,c'⟩:=c3'
    ·simp[hr,Qm,c1,c2,jH,c,d1,d2];exact⟨h1,pV _ rfl (Idle.bool _) (hK _ (fin _ (by simp[d1,d2])))⟩
    rw[<- c']at c2 h1;simp[hr,Qm,c1,c2,jH,c,<- c',d1,d2];exact⟨h1,pV _ rfl (Idle.bool _) (hK _ (fin _ (by simp[d1,d2])))⟩
   obtain c|⟨c,c'⟩:=c3'
   ·simp[hr,Qm,c1,c2,jH,c,d1];exact⟨h1,pV _ rfl (Idle.bool _) (hK _ (fin _ (by simp[d1])))⟩
   rw[<- c']at c2 h1;simp[hr,Qm,c1,c2,jH,c,<- c',d1];exact⟨h1,pV _ rfl (Idle.bool _) (hK _ (fin _ (by simp[d1])))⟩
 simp[hr];exact pV _ rfl (Idle.bool _) (hK _ (by simp[jy,hf]))
def Ab(p:Pl)(e:En)(a:Sp):Bool:=match Xg a.2 p.aO with
 |none=>false
 |some y=>decide (y.fr=e.fr)&&(decide (y.ki≠5)&&decide (y.ki≠4))
def Ol(p:Pl)(e:En)(kB:List (P2×AV))(b0:X2):AM:=cn p (mI p.aO) kB (b0++[[.ptr 3 0],Qd e])
def rdA{p:Pl}{e:En}{kB:List (P2×AV)}{b0:X2}{K:UV}{r:AV}{m':AM}(ex:X2)(hm:m'=cn p (mI p.aO) kB (b0++([.ptr 3 0]::Qd e::ex)))(hi:Idle r)(hK:K r (Ol p e kB b0)):RdK (Ol p e kB b0) K r m':=
 pV ex (by rw[hm];simp[Ol,cn]) hi hK
def YF(p:Pl)(e:En)(a:Sp)(kB:List (P2×AV))(b0:X2)(Y:YT)(K:UV)(hK:K (.bool (!Ab p e a)) (Ol p e kB b0)):
  aA Tryz.prog aD Y 215 [.agg (Qe a),.ptr (b0.length+4) 0,.ptr (b0.length+5) 0] (Ol p e kB b0) K:=by
 refine Kt (Xh ads (fun _ _ _=>.junk) zd ?_);obtain⟨r,hr,Ri⟩:=DF p a.2;simp[aib,aic,Ol,cn,Qa,Qd,Qe];refine Ui ?_;obtain⟨n,y,hf,rfl⟩|⟨hf,rfl⟩:=Ri
 ·by_cases c1:y.fr=e.fr
  ·by_cases c2:y.ki=5
   ·have:(!Ab p e a)=true:=by simp[Ab,hf,c1,c2]
    rw[this]at hK;simp[hr,Qm,c1,c2];exact rdA _ rfl (Idle.bool _) hK
   by_cases c3:y.ki=4
   ·have:(!Ab p e a)=true:=by simp[Ab,hf,c1,c2,c3]
    rw[this]at hK;simp[hr,Qm,c1,c2,c3];exact rdA _ rfl (Idle.bool _) hK
   have:(!Ab p e a)=false:=by simp[Ab,hf,c1,c2,c3]
   rw[this]at hK;have h':(y.ki==5||y.ki==4)=false:=by simp[c2,c3]
   simp[hr,Qm,c1,c2,c3];rw[h'];exact rdA _ rfl (Idle.bool _) hK
  have:(!Ab p e a)=true:=by simp[Ab,hf,c1]
  rw[this]at hK;have h':(y.fr !=e.fr||y.ki==5||y.ki==4)=true:=by simp[c1]
  simp[hr,Qm,c1];rw[h'];exact rdA _ rfl (Idle.bool _) hK
 have:(!Ab p e a)=true:=by simp[Ab,hf]
 rw[this]at hK;simp[hr];exact rdA _ rfl (Idle.bool _) hK
def jI{α:Type}(b:α->Bool):List α->Nat->Int
 |[],_=> -1
 |x::r,i=>if b x=true then(i:Int)else jI b r (i+1)
def xM{α:Type}(b:α->Bool):∀(l:List α)(i:Nat),(0<=jI b l i<->l.any b=true)
 |[],i=>by simp[jI]
 |x::r,i=>by
  rw[jI];cases h:b x with
  |true=>simp[h]
  |false=>simp[h,xM b r (i+1)]
def asq(s n:Nat)(m0:AM)(R:Nat->Prop)(f:Nat->AV)(m:AM):Prop:=∃(i:Nat),f s=I i/\i<=n/\R i/\m=m0
def YG(p:Pl)(e:En)(L:List Sp)(hl:L.length<=8796093022208)(kB:List (P2×AV))(b0:X2)(Y:YT)(K:UV)(hK:K (I (jI (fun a=>!Ab p e a) L 0)) (Ol p e kB b0)):
  aA Tryz.prog aD Y 239 [.sl .ro (L.map Qe),.fn 215 [] [.ptr (b0.length+4) 0,.ptr (b0.length+5) 0]] (Ol p e kB b0) K:=by
 obtain⟨T,hT⟩:∃T,jI (fun a=>!Ab p e a) L 0=T:=⟨_,rfl⟩;rw[hT]at hK;refine Xh adM (fun _ _ _=>.gd false .junk) zd ?_;simp[aiB];refine Qj vM (asq 8 L.length (Ol p e kB b0) fun i=>jI (fun a=>!Ab p e a) (L.drop i) i=T) (fun f _=>L.length-(numOf (f 8)).toNat) ?_ ?_
 ·exact⟨0,zd,zE,Pi hT,rfl⟩
 rintro f m ⟨i,h8,hi,hx,rfl⟩;rcases zzab i L.length with aa|bu
 ·obtain⟨a,ha⟩:=aY aa;have ai:=Zv ha;have ah:(i:Int)<(L.length:Int):=zE
  have hw:=bR i zE;rw[Zb ha,jI]at hx;simp[h8,aa,ah,ai,vM,E4];refine YF p e a kB b0 Y _ ?_;cases hb:Ab p e a with
  |false=>
   rw[hb]at hx;simp at hx;simp[h8,vM,E4,hx];exact hK
  |true=>
   rw[hb]at hx;simp at hx;simp[h8,vM,E4,hw];refine⟨aR,⟨i+1,zd,zE,hx,rfl⟩,zE⟩
 have bU:¬(i:Int)<(L.length:Int):=zE
 rw[zzam bu,jI]at hx;simp[h8,bU,zzbn.2 bu,vM,E4,hx];exact hK
def Lp(p:Pl)(e:En)(L:List Sp)(hl:L.length<=8796093022208)(kB:List (P2×AV))(b0:X2)(Y:YT)(K:UV)(hK:K (.bool (L.any fun a=>!Ab p e a)) (Ol p e kB b0)):
  aA Tryz.prog aD Y 216 [.sl .ro (L.map Qe),.fn 215 [] [.ptr (b0.length+4) 0,.ptr (b0.length+5) 0]] (Ol p e kB b0) K:=by
 have ami:=xM (fun a=>!Ab p e a) L 0;refine Xh adt (fun _ _ _=>.gd false .junk) zd ?_;simp[aid];refine YG p e L hl kB b0 Y _ ?_
 have:decide (0<=jI (fun a=>!Ab p e a) L 0)=L.any fun a=>!Ab p e a:=by
  rw[zzcs,decide_eq_true_eq];exact ami
 simp[aie,this];simpa using hK
def mB(p:Pl)(e:En):Bool:=Km 1 (p.rg-1) none (e.al.map fun x=>x.1)&&(!(decide (kindOf p e.it=4)&&decide (e.al≠[]))&&!(e.al.any fun a=>!Ab p e a))
def BB(p:Pl)(e:En):X1:=fun _ f _=>if f=213 then .bool (Km 1 (p.rg-1) none (e.al.map fun x=>x.1))else .gd false .junk
def amj(p:Pl)(e:En)(hl:e.al.length<=8796093022208)(Oj:1<=p.rg/\p.rg<=8)(kB:List (P2×AV))(bx:X2)(Y:YT)(K:UV)(hK:∀b,mB p e=b->K (.bool b) (cn p (mI p.aO) kB bx)):
  aA Tryz.prog aD Y 183 [.ptr 3 0,.agg (Qd e)] (cn p (mI p.aO) kB bx) K:=by
 have GG:=Rb e.al 1 (p.rg-1) hl;refine Kt (Xh ac9 (BB p e) zd ?_);obtain⟨r,hr,Ri⟩:=DF p e.it;have rE:IntKind.i64.wrap (p.rg-1)=p.rg-1:=by rw[Qi]<;>omega
 cases h1:Km 1 (p.rg-1) none (e.al.map fun x=>x.1)with
 |false=>
  rw[h1]at GG;simp[AP,oH,cn,Qa,Qd,rE,BB,h1];exact⟨GG,pV _ rfl (Idle.bool _) (hK _ (by simp[mB,h1]))⟩
 |true=>
  rw[h1]at GG;have tl:∀(E:R0),True:=fun _=>trivial;have hgo:kindOf p e.it=4->e.al≠[]->mB p e=false:=fun h h'=>by simp[mB,h,h']
  have tM:¬(kindOf p e.it=4/\e.al≠[])->mB p e=!(e.al.any fun a=>!Ab p e a):=fun h=>by
   have:(decide (kindOf p e.it=4)&&decide (e.al≠[]))=false:=by
    rw[Bool.eq_false_iff];intro h';simp at h';exact h h'
   rw[mB,h1,this];rfl
  obtain⟨n,y,hf,rfl⟩|⟨hf,rfl⟩:=Ri
  ·have hkd:kindOf p e.it=y.ki:=by simp[kindOf,hf]
   by_cases c1:y.ki=4
   ·by_cases c2:e.al=[]
    ·have QC:=tM (by simp[c2]);have c2l:¬0<e.al.length:=by simp[c2]
     simp[AP,oH,cn,Qa,Qd,rE,BB,h1,hr,Qm,c1,c2];rw[c2]at GG;refine⟨GG,?_⟩;have:=Lp p e [] zd kB bx Y;simp only[Ol,cn,Qa,Qd,c2]at this;refine this _ ?_;simp[oH];exact pV _ rfl (Idle.bool _) (hK _ (by rw[QC,c2];rfl))
    have c2l:0<e.al.length:=zzdf.2 c2;simp[AP,oH,cn,Qa,Qd,rE,BB,h1,hr,Qm,c1,c2l];exact⟨GG,pV _ rfl (Idle.bool _) (hK _ (hgo (by rw[hkd,c1]) c2))⟩
   have QC:=tM (by rw[hkd];exact fun h=>c1 h.1);simp[AP,oH,cn,Qa,Qd,rE,BB,h1,hr,Qm,c1];refine⟨GG,?_⟩;have:=Lp p e e.al hl kB bx Y;simp only[Ol,cn,Qa,Qd]at this;refine this _ ?_;simp[oH];exact pV _ rfl (Idle.bool _) (hK _ (by rw[QC]))
  have QC:=tM (by simp[kindOf,hf]);simp[AP,oH,cn,Qa,Qd,rE,BB,h1,hr];refine⟨GG,?_⟩;have:=Lp p e e.al hl kB bx Y;simp only[Ol,cn,Qa,Qd]at this;refine this _ ?_;simp[oH];exact pV _ rfl (Idle.bool _) (hK _ (by rw[QC]))
def xN(x a:Sp):Bool:=x.1==a.1&&x.2==a.2
def YH(x:Sp)(L:List Sp):L.any (xN x)=decide (x∈L):=by
 rw[zzcs];simp only[zzbv,decide_eq_true_eq,xN,zzai,beq_iff_eq];constructor
 ·rintro⟨a,h,h1,h2⟩;have:x=a:=Prod.ext h1 h2;rw[this];exact h
 exact fun h=>⟨x,h,rfl,rfl⟩
def YI(x:Sp)(L:List Sp)(hl:L.length<=8796093022208):Pure Tryz.prog aD 240 [.sl .ro (L.map Qe),.agg (Qe x)] (I (jI (xN x) L 0)):=by
 obtain⟨T,hT⟩:∃T,jI (xN x) L 0=T:=⟨_,rfl⟩;rw[hT];refine Qn adN (fun _ _ _=>.junk) zd ?_;simp[aiC,Qe];refine Qj CL (asq 8 L.length ⟨[[I x.1,I x.2]],[],fun _=>.gone,0⟩ fun i=>jI (xN x) (L.drop i) i=T) (fun f _=>L.length-(numOf (f 8)).toNat) ?_ ?_
 ·exact⟨0,zd,zE,Pi hT,rfl⟩
 rintro f m ⟨i,h8,hi,hx,rfl⟩;rcases zzab i L.length with aa|bu
 ·obtain⟨a,ha⟩:=aY aa;have ai:Qg (L.map Qe) i=Qe a:=Zv ha;have ajk:Qg (L.map fun x=>[I x.1,I x.2]) i=Qe a:=ai;have ah:(i:Int)<(L.length:Int):=zE
  have hw:=bR i zE;rw[Zb ha,jI]at hx;cases hb:xN x a with
  |false=>
   rw[hb]at hx;simp at hx;simp only[xN]at hb;simp[h8,aa,ah,ai,ajk,CL,Nx,hw,Qe,hb];refine⟨aR,⟨i+1,zd,zE,hx,rfl⟩,zE⟩
  |true=>
   rw[hb]at hx;simp at hx;simp only[xN]at hb;subst hx;simp[h8,aa,ah,ai,ajk,CL,Nx,Qe,hb]
 have bU:¬(i:Int)<(L.length:Int):=zE
 rw[zzam bu,jI]at hx;simp[h8,bU,zzbn.2 bu,CL,Nx,hx]
def GH(x:Sp)(L:List Sp)(hl:L.length<=8796093022208):Pure Tryz.prog aD 217 [.sl .ro (L.map Qe),.agg (Qe x)] (.bool (decide (x∈L))):=by
 have k:=YI x L hl;have ami:=xM (xN x) L 0;refine Qn adu (fun _ _ _=>I (jI (xN x) L 0)) zd ?_
 have:decide (0<=jI (xN x) L 0)=decide (x∈L):=by
  rw[<- YH,zzcs,decide_eq_true_eq];exact ami
 simp[aif,aih,this,Qe];simpa[Qe]using k
def amk(p:Pl)(id:Int):∃r,Xi [id] (mK p.bks) 0=r/\((∃n x,GF id p.bks=some x/\r=some (n,.agg (Xk x)))\/(GF id p.bks=none/\r=none)):=by
 obtain⟨g1,g2⟩:=asp id p.bks 0;cases hf:GF id p.bks with
 |none=>exact⟨_,rfl,.inr ⟨rfl,g1 hf⟩⟩
 |some x=>
  obtain⟨n,g⟩:=g2 x hf;exact⟨_,rfl,.inl ⟨n,x,rfl,g⟩⟩
def Rj(p:Pl)(e:En):Bool:=if e.bo=0 then true else match GF e.bo p.bks with
 |none=>false
 |some x=>if x.re=0 then decide (x.it=e.it)else decide ((x.re,x.it)∈e.al)
def Rk(p:Pl)(e:En)(hl:e.al.length<=8796093022208)(kI:List (P2×AV))(bx:X2)(Y:YT)(K:UV)(hK:∀b,Rj p e=b->K (.bool b) (cn p kI (mK p.bks) bx)):
  aA Tryz.prog aD Y 184 [.ptr 3 0,.agg (Qd e)] (cn p kI (mK p.bks) bx) K:=by
 obtain⟨r,hr,Ri⟩:=amk p e.bo;by_cases h0:e.bo=0
 ·refine Kt (Xh CG (fun _ _ _=>.junk) zd ?_);simp[Nl,Nn,cn,Qa,Qd,h0];exact pV _ rfl (Idle.bool _) (hK _ (by simp[Rj,h0]))
 obtain⟨n,x,hf,rfl⟩|⟨hf,rfl⟩:=Ri
 ·have k:=GH (x.re,x.it) e.al hl;refine Kt (Xh CG (fun _ _ _=>.bool (decide ((x.re,x.it)∈e.al))) zd ?_);simp[Nl,Nn,cn,Qa,Qd,h0];refine Ui ?_;by_cases c1:x.re=0
  ·simp[hr,Xk,c1];exact pV _ rfl (Idle.bool _) (hK _ (by simp only[Rj,h0,hf,c1];rw[zzcs];simp))
  simp[hr,Xk,c1];refine⟨by simpa[Qe]using k,pV _ rfl (Idle.bool _) (hK _ (by simp[Rj,h0,hf,c1]))⟩
 refine Kt (Xh CG (fun _ _ _=>.junk) zd ?_);simp[Nl,Nn,cn,Qa,Qd,h0];refine Ui ?_;simp[hr];exact pV _ rfl (Idle.bool _) (hK _ (by simp[Rj,h0,hf]))
def Ac(p:Pl)(seen:P2)(e:En):Bool:=wi e.id 1 1000000&&(!decide (e.id∈seen)&&(jy p e&&(mB p e&&Rj p e)))
def GI(p:Pl):P2->List En->Bool
 |_,[]=>true
 |seen,e::r=>Ac p seen e&&GI p (seen++[e.id]) r
def xO(p:Pl):Bool:=decide (p.ens.length<=4000)&&GI p [] p.ens
def mS(l:P2):List (P2×AV):=l.map fun n=>([n],.bool true)
def asr(k:Int):∀(l:P2)(i:Nat),(k∈l->∃n,Xi [k] (mS l) i=some (n,.bool true))/\(¬k∈l->Xi [k] (mS l) i=none)
 |[],i=>⟨fun h=>(by cases h),fun _=>rfl⟩
 |x::r,i=>by
  have ih:=asr k r (i+1);simp only[mS,zzay,Xi]at ih |-
  by_cases h:x=k
  ·subst h;simp
  have h':¬k=x:=fun e=>h e.symm;rw[if_neg (by intro e;cases e;exact h rfl)];simp only[zzao,h',false_or];exact ih
def xP:X1:=fun _ f l=>if f=175 then(match l with|[.int _ n,.int _ lo,.int _ up]=>.bool (wi n lo up)|_=>.junk)else .gd false .junk
def aml(p:Pl)(f:Nat->AV)(m:AM):Prop:=∃(i:Nat)(bx:X2),f 20=I i/\i<=p.ens.length/\GI p ((p.ens.take i).map fun e=>e.id) (p.ens.drop i)=GI p [] p.ens/\f 3=.mp 4/\m=cn p (mI p.aO) (mK p.bks) ([.aL 0 (mS ((p.ens.take i).map fun e=>e.id))]::bx)
def Qda{p:Pl}{i:Nat}{e:En}(h:p.ens[i]?=some e):Qg (p.ens.map Qd) i=Qd e:=Qv (by simp[h])
def Rl(p:Pl)(hl:p.ens.length<=1000000000)(fk:∀e∈p.ens,e.al.length<=8796093022208)(YD:xL p.aO=true)(Oj:1<=p.rg/\p.rg<=8)(ei:1<=p.ln/\p.ln<=100000000)(Y:YT)(K:UV)(hK:∀b,xO p=b->K (.bool b) (cn p (mI p.aO) (mK p.bks) [])):
  aA Tryz.prog aD Y 135 [.ptr 3 0] (cn p (mI p.aO) (mK p.bks) []) K:=by
 refine Kt (Xh acy xP zd ?_);by_cases h0:p.ens.length<=4000
 ·have zJ:¬(4000:Int)<(p.ens.length:Int):=zE
  simp[M9,cn,Qa,h0,zJ];refine Qj qG (aml p) (fun f _=>p.ens.length-(numOf (f 20)).toNat) ?_ ?_
  ·exact⟨0,[],zd,zE,zd,zd,by simp[cn,Qa,mS]⟩
  rintro f m ⟨i,bx,h20,hi,ha,h3,rfl⟩;rcases zzab i p.ens.length with aa|bu
  ·obtain⟨e,he⟩:=aY aa;have ai:=Qda he;have ah:(i:Int)<(p.ens.length:Int):=zE
   have hw:=bR i zE;have bB:(p.ens.take (i+1)).map (fun e=>e.id)=(p.ens.take i).map (fun e=>e.id)++[e.id]:=by simp[zzax,he]
   rw[Zb he,GI,<- bB]at ha;obtain⟨S,hS⟩:∃S,(p.ens.take i).map (fun e=>e.id)=S:=⟨_,rfl⟩;rw[hS]at ha bB |-
   have h1:=Yw e.id 1 1000000;have hae:=fk e (zzac he);obtain⟨s1,s2⟩:=asr e.id S 0;have bad:Ac p S e=false->xO p=false:=fun h=>by rw[h]at ha;simp[xO,<- ha]
   cases e1:wi e.id 1 1000000 with
   |false=>
    rw[e1]at h1;simp[h20,h3,aa,ah,ai,Qd,cn,Qa,xP,e1,qG,sD];exact⟨h1,pV _ rfl (Idle.bool _) (hK _ (bad (by simp[Ac,e1])))⟩
   |true=>
    rw[e1]at h1;by_cases e2:e.id∈S
    ·obtain⟨n,s1⟩:=s1 e2;simp[h20,h3,aa,ah,ai,Qd,cn,Qa,xP,e1,s1,qG,sD];exact⟨h1,pV _ rfl (Idle.bool _) (hK _ (bad (by simp[Ac,e1,e2])))⟩
    have s2:=s2 e2;simp[h20,h3,aa,ah,ai,Qd,cn,Qa,xP,e1,s2,qG];refine⟨h1,amh p e (mK p.bks) ([.aL 0 (mS S)]::(bx++[Qd e])) YD ei Y _ fun b hb=>?_⟩;cases b with
    |false=>
     simp[sD];exact pV _ rfl (Idle.bool _) (hK _ (bad (by simp[Ac,e1,e2,hb])))
    |true=>
     simp[cn,Qa,Qd,xP];refine amj p e hae Oj (mK p.bks) ([.aL 0 (mS S)]::(bx++[Qd e])) Y _ fun b fO=>?_;cases b with
     |false=>
      simp[sD];exact pV _ rfl (Idle.bool _) (hK _ (bad (by simp[Ac,e1,e2,hb,fO])))
     |true=>
      simp[cn,Qa,Qd,xP];refine Rk p e hae (mI p.aO) ([.aL 0 (mS S)]::(bx++[Qd e])) Y _ fun b Og=>?_;cases b with
      |false=>
       simp[sD];exact pV _ rfl (Idle.bool _) (hK _ (bad (by simp[Ac,e1,e2,hb,fO,Og])))
      |true=>
       have ck:Ac p S e=true:=by simp[Ac,e1,e2,hb,fO,Og]
       rw[ck,zzea]at ha;simp[h20,h3,cn,Qa,Qd,xP,s2,hw,qG];refine⟨aR,⟨i+1,bx++[Qd e],zd,zE,ha,by simp[h3],?_⟩,zE⟩
       ·rw[bB];simp[cn,Qa,Qd,mS]
  have bU:¬(i:Int)<(p.ens.length:Int):=zE
  rw[zzam bu]at ha;have ha:GI p [] p.ens=true:=by rw[<- ha];rfl
  simp[h20,bU,zzbn.2 bu,qG,sD,cn,Qa];exact pV _ rfl (Idle.bool _) (hK _ (by simp[xO,h0,ha]))
 have zJ:(4000:Int)<(p.ens.length:Int):=zE
 simp[M9,sD,cn,Qa,h0,zJ];exact pV [] zd (Idle.bool _) (hK _ (by simp[xO,h0]))
def rI(p:Pl):Bool:=Ji p&&(Wy p&&(jx p&&(xO p&&Qdi p)))
def pX(p:Pl):X1:=fun _ f _=>if f=132 then .bool (Ji p)else if f=136 then .bool (Qdi p)else .gd false .junk
def PlS(p:Pl):Prop:=p.sh.length<=1000000000/\p.aO.length<=1000000000/\p.ens.length<=1000000000/\p.bks.length<=8796093022208/\p.cls.length<=1000000000/\∀e∈p.ens,e.al.length<=8796093022208
def Wo(p:Pl)(h:PlS p):Pure Tryz.prog aD 83 [.agg (Qa p)] (.bool (rI p)):=by
 obtain⟨l1,l2,l3,l4,l5,l6⟩:=h;have k44:=aeM p l1;have k48:=Rf p l5;refine Qn ak1 (pX p) zd ?_;cases e1:Ji p with
 |false=>
  rw[e1]at k44;simp[ak0,PF,Qa,pX,rI,e1];simpa[Qa]using k44
 |true=>
  rw[e1]at k44
  have hs:(1<=p.rg/\p.rg<=8)/\(1<=p.ln/\p.ln<=100000000):=by
   simp[Ji,wi]at e1;omega
  simp[ak0,Qa,pX,rI,e1];refine⟨by simpa[Qa]using k44,?_⟩;refine aeS p l2 Y0 _ (fun e2=>?_) (fun e2 kI=>?_)
  ·simp[cn,Qa,pX,e2];refine aeT p l4 hs.1 Y0 _ (fun e3=>?_) (fun e3 kB=>?_)
   ·simp[cn,Qa,pX,e3]
    have YD:xL p.aO=true:=by
     simp[Wy]at e2;exact e2.2.2.1
    refine Rl p l3 l6 YD hs.1 hs.2 Y0 _ fun b e4=>?_;cases b with
    |false=>simp[PF,cn,Qa,pX,e4]
    |true=>
     simp[PF,cn,Qa,pX,e4];simpa[Qa]using k48
   simp[PF,cn,Qa,pX,e3]
  simp[PF,cn,Qa,pX,e2]
