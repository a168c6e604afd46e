import Derived.Test.YtnopaopphmjnmaaGreatDoorMBSpG
set_option linter.all false
set_option maxRecDepth 100000
set_option maxHeartbeats 64000000
namespace Go.Proofs.YtnopaopphmjnmaaGreatDoor
open Go Go.Abs
def Yx(n lo up:Int):Pure Tryz.prog az 265 [I n,I lo,I up] (.bool (wi n lo up)):=by
 refine Qn adz (fun _ _ _=>.junk) (by simp) ?_;by_cases h1:lo<=n<;>by_cases h2:n<=up<;>simp[aif,aih,wi,h1,h2]
def ajw(e:It):Pure Tryz.prog az 56 [.agg (Qm e)] (I e.id):=by
 refine Qn Tj (fun _ _ _=>.junk) (by simp) ?_;simp[akC,Qm,akD]
def wQ(e:Bk):Pure Tryz.prog az 268 [.agg (Xf e)] (I e.id):=by
 refine Qn adC (fun _ _ _=>.junk) (by simp) ?_;simp[aii,Xf,aij]
def wR(e:Sp):Pure Tryz.prog az 314 [.agg (Qe e)] (I e.1):=by
 refine Qn adV (fun _ _ _=>.junk) (by simp) ?_;simp[aiy,Qe,aiz]
def S0(k:Int):Option Int->Bool
 |some q=>decide (k<=q)
 |none=>false
def Kl(lo up:Int):Option Int->List Int->Bool
 |_,[]=>true
 |pr,k::r=>if k<lo\/up<k\/S0 k pr=true then false else Kl lo up (some k) r
def Iq(ks:List Int):Nat->Option Int
 |0=>none
 |i+1=>ks[i]?
def Qdk{ks:List Int}{i:Nat}{k:Int}(h:ks[i]?=some k):Iq ks (i+1)=some k:=h
def keyOf:List AV->Int
 |[.agg (.int _ n::_)]=>n
 |_=>0
def ir:Nat->FuncId->List AV->AV:=fun _ _ l=>I (keyOf l)
def qT{lo up:Int}{ks:List Int}{i:Nat}{k:Int}(h:ks[i]?=some k):Kl lo up (Iq ks i) (ks.drop i)=if k<lo\/up<k\/S0 k (Iq ks i)=true then false else Kl lo up (Iq ks (i+1)) (ks.drop (i+1)):=by
 obtain⟨hi,hk⟩:=zza.1 h;rw[zzaf hi,hk,Kl,Qdk h]
def N1(s n:Nat)(R:Nat->Prop)(f:Nat->AV)(m:AM):Prop:=∃(i:Nat)(bx:List (List AV)),f s=I i/\i<=n/\R i/\m=⟨bx,[],fun _=>.gone,0⟩
def Q0(L:List It)(lo up:Int)(hl:L.length<=8796093022208):Pure Tryz.prog az 266 [.sl .ro (L.map Qm),I lo,I up,.fn 56 [] []] (.bool (Kl lo up none (L.map fun x=>x.id))):=by
 obtain⟨T,hT⟩:∃T,Kl lo up none (L.map fun x=>x.id)=T:=⟨_,rfl⟩;rw[hT];refine Qn adA ir (by simp) ?_;simp[UN];refine Qj mJ (N1 14 L.length fun i=>Kl lo up (Iq (L.map fun x=>x.id) i) ((L.map fun x=>x.id).drop i)=T) (fun f _=>L.length-(numOf (f 14)).toNat) ?_ ?_
 ·exact⟨0,_,by simp,by omega,by simpa[Iq]using hT,rfl⟩
 rintro f m ⟨i,bx,nC,hi,ha,rfl⟩;rcases zzaa i L.length with ai|bB
 ·obtain⟨x,hx⟩:=aR ai;have aa:Qh (L.map Qm) i=Qm x:=Qs (by simp[hx]);have ah:(i:Int)<(L.length:Int):=by omega
  have hw:=bJ i (by omega);have hk:=ajw x;have X6:(L.map fun x=>x.id)[i]?=some x.id:=by simp[hx]
  rw[qT X6]at ha;by_cases c1:x.id<lo
  ·rw[if_pos (.inl c1)]at ha;subst ha;simp[nC,ah,aa,Qm,ir,keyOf,c1,mJ,u5];simpa[Qm]using hk
  by_cases c2:up<x.id
  ·rw[if_pos (.inr (.inl c2))]at ha;subst ha;simp[nC,ah,aa,Qm,ir,keyOf,c1,c2,mJ,u5];simpa[Qm]using hk
  cases i with
  |zero=>
   rw[if_neg (by simp[c1,c2,Iq,S0])]at ha;have eU:IntKind.i64.wrap 1=1:=by decide
   simp[nC,ai,aa,Qm,ir,keyOf,c1,c2,mJ,u5,eU];refine⟨by simpa[Qm]using hk,aN,⟨1,_,by simp,by omega,ha,rfl⟩,by omega⟩
  |succ j=>
   have nG:j<L.length:=by omega
   have sr:(j:Int)<(L.length:Int):=by omega
   obtain⟨y,hy⟩:=aR nG;have sv:Qh (L.map Qm) j=Qm y:=Qs (by simp[hy]);have hky:=ajw y;have sw:Iq (L.map fun x=>x.id) (j+1)=some y.id:=Qdk (by simp[hy]);have hwm:IntKind.i64.wrap (((j+1:Nat):Int)-1)=(j:Int):=by rw[Qi]<;>omega
   have arT:IntKind.i64.wrap ((j:Int)+1-1)=(j:Int):=by rw[Qi]<;>omega
   have tE:IntKind.i64.wrap (j:Int)=(j:Int):=by rw[Qi]<;>omega
   have ek:(0:Int)<(j:Int)+1:=by omega
   have hj0:(0:Int)<=(j:Int):=by omega
   have F5:(0:Int)<=(j:Int)+1:=by omega
   have hjn:¬(j:Int)<0:=by omega
   have F6:(j:Int)+1<(L.length:Int):=by omega
   have ee:IntKind.i64.wrap ((j:Int)+1+1)=((j+1+1:Nat):Int):=by rw[Qi]<;>omega
   by_cases c3:x.id<=y.id
   ·rw[if_pos (.inr (.inr (by rw[sw];simp[S0,c3])))]at ha;subst ha;simp[nC,F6,ek,hj0,F5,tE,sr,aa,sv,Qm,ir,keyOf,c1,c2,c3,mJ,u5];exact⟨by simpa[Qm]using hk,by simpa[Qm]using hky⟩
   rw[if_neg (by rw[sw];simp[c1,c2,c3,S0])]at ha;simp[nC,F6,ek,hj0,F5,tE,sr,aa,sv,Qm,ir,keyOf,c1,c2,c3,mJ,u5,ee];refine⟨by simpa[Qm]using hk,by simpa[Qm]using hky,aN,⟨j+1+1,_,by simp,by omega,ha,rfl⟩,by omega⟩
 obtain rfl:i=L.length:=by omega
 rw[zzan (by simp)]at ha;have ha:true=T:=by rw[<- ha];simp[Kl]
 subst ha;simp[nC,mJ,u5]
def Q1(L:List Bk)(lo up:Int)(hl:L.length<=8796093022208):Pure Tryz.prog az 267 [.sl .ro (L.map Xf),I lo,I up,.fn 268 [] []] (.bool (Kl lo up none (L.map fun x=>x.id))):=by
 obtain⟨T,hT⟩:∃T,Kl lo up none (L.map fun x=>x.id)=T:=⟨_,rfl⟩;rw[hT];refine Qn adB ir (by simp) ?_;simp[UO];refine Qj mM (N1 14 L.length fun i=>Kl lo up (Iq (L.map fun x=>x.id) i) ((L.map fun x=>x.id).drop i)=T) (fun f _=>L.length-(numOf (f 14)).toNat) ?_ ?_
 ·exact⟨0,_,by simp,by omega,by simpa[Iq]using hT,rfl⟩
 rintro f m ⟨i,bx,nC,hi,ha,rfl⟩;rcases zzaa i L.length with ai|bB
 ·obtain⟨x,hx⟩:=aR ai;have aa:Qh (L.map Xf) i=Xf x:=Qs (by simp[hx]);have ah:(i:Int)<(L.length:Int):=by omega
  have hw:=bJ i (by omega);have hk:=wQ x;have X6:(L.map fun x=>x.id)[i]?=some x.id:=by simp[hx]
  rw[qT X6]at ha;by_cases c1:x.id<lo
  ·rw[if_pos (.inl c1)]at ha;subst ha;simp[nC,ah,aa,Xf,ir,keyOf,c1,mM,u6];simpa[Xf]using hk
  by_cases c2:up<x.id
  ·rw[if_pos (.inr (.inl c2))]at ha;subst ha;simp[nC,ah,aa,Xf,ir,keyOf,c1,c2,mM,u6];simpa[Xf]using hk
  cases i with
  |zero=>
   rw[if_neg (by simp[c1,c2,Iq,S0])]at ha;have eU:IntKind.i64.wrap 1=1:=by decide
   simp[nC,ai,aa,Xf,ir,keyOf,c1,c2,mM,u6,eU];refine⟨by simpa[Xf]using hk,aN,⟨1,_,by simp,by omega,ha,rfl⟩,by omega⟩
  |succ j=>
   have nG:j<L.length:=by omega
   have sr:(j:Int)<(L.length:Int):=by omega
   obtain⟨y,hy⟩:=aR nG;have sv:Qh (L.map Xf) j=Xf y:=Qs (by simp[hy]);have hky:=wQ y;have sw:Iq (L.map fun x=>x.id) (j+1)=some y.id:=Qdk (by simp[hy]);have hwm:IntKind.i64.wrap (((j+1:Nat):Int)-1)=(j:Int):=by rw[Qi]<;>omega
   have arT:IntKind.i64.wrap ((j:Int)+1-1)=(j:Int):=by rw[Qi]<;>omega
   have tE:IntKind.i64.wrap (j:Int)=(j:Int):=by rw[Qi]<;>omega
   have ek:(0:Int)<(j:Int)+1:=by omega
   have hj0:(0:Int)<=(j:Int):=by omega
   have F5:(0:Int)<=(j:Int)+1:=by omega
   have hjn:¬(j:Int)<0:=by omega
   have F6:(j:Int)+1<(L.length:Int):=by omega
   have ee:IntKind.i64.wrap ((j:Int)+1+1)=((j+1+1:Nat):Int):=by rw[Qi]<;>omega
   by_cases c3:x.id<=y.id
   ·rw[if_pos (.inr (.inr (by rw[sw];simp[S0,c3])))]at ha;subst ha;simp[nC,F6,ek,hj0,F5,tE,sr,aa,sv,Xf,ir,keyOf,c1,c2,c3,mM,u6];exact⟨by simpa[Xf]using hk,by simpa[Xf]using hky⟩
   rw[if_neg (by rw[sw];simp[c1,c2,c3,S0])]at ha;simp[nC,F6,ek,hj0,F5,tE,sr,aa,sv,Xf,ir,keyOf,c1,c2,c3,mM,u6,ee];refine⟨by simpa[Xf]using hk,by simpa[Xf]using hky,aN,⟨j+1+1,_,by simp,by omega,ha,rfl⟩,by omega⟩
 obtain rfl:i=L.length:=by omega
 rw[zzan (by simp)]at ha;have ha:true=T:=by rw[<- ha];simp[Kl]
 subst ha;simp[nC,mM,u6]
def Q2(L:List Sp)(lo up:Int)(hl:L.length<=8796093022208):Pure Tryz.prog az 313 [.sl .ro (L.map Qe),I lo,I up,.fn 314 [] []] (.bool (Kl lo up none (L.map fun x=>x.1))):=by
 obtain⟨T,hT⟩:∃T,Kl lo up none (L.map fun x=>x.1)=T:=⟨_,rfl⟩;rw[hT];refine Qn adU ir (by simp) ?_;simp[UX];refine Qj mN (N1 14 L.length fun i=>Kl lo up (Iq (L.map fun x=>x.1) i) ((L.map fun x=>x.1).drop i)=T) (fun f _=>L.length-(numOf (f 14)).toNat) ?_ ?_
 ·exact⟨0,_,by simp,by omega,by simpa[Iq]using hT,rfl⟩
 rintro f m ⟨i,bx,nC,hi,ha,rfl⟩;rcases zzaa i L.length with ai|bB
 ·obtain⟨x,hx⟩:=aR ai;have aa:Qh (L.map Qe) i=Qe x:=Qs (by simp[hx]);have ah:(i:Int)<(L.length:Int):=by omega
  have hw:=bJ i (by omega);have hk:=wR x;have X6:(L.map fun x=>x.1)[i]?=some x.1:=by simp[hx]
  rw[qT X6]at ha;by_cases c1:x.1<lo
  ·rw[if_pos (.inl c1)]at ha;subst ha;simp[nC,ah,aa,Qe,ir,keyOf,c1,mN,u9];simpa[Qe]using hk
  by_cases c2:up<x.1
  ·rw[if_pos (.inr (.inl c2))]at ha;subst ha;simp[nC,ah,aa,Qe,ir,keyOf,c1,c2,mN,u9];simpa[Qe]using hk
  cases i with
  |zero=>
   rw[if_neg (by simp[c1,c2,Iq,S0])]at ha;have eU:IntKind.i64.wrap 1=1:=by decide
   simp[nC,ai,aa,Qe,ir,keyOf,c1,c2,mN,u9,eU];refine⟨by simpa[Qe]using hk,aN,⟨1,_,by simp,by omega,ha,rfl⟩,by omega⟩
  |succ j=>
   have nG:j<L.length:=by omega
   have sr:(j:Int)<(L.length:Int):=by omega
   obtain⟨y,hy⟩:=aR nG;have sv:Qh (L.map Qe) j=Qe y:=Qs (by simp[hy]);have hky:=wR y;have sw:Iq (L.map fun x=>x.1) (j+1)=some y.1:=Qdk (by simp[hy]);have hwm:IntKind.i64.wrap (((j+1:Nat):Int)-1)=(j:Int):=by rw[Qi]<;>omega
   have arT:IntKind.i64.wrap ((j:Int)+1-1)=(j:Int):=by rw[Qi]<;>omega
   have tE:IntKind.i64.wrap (j:Int)=(j:Int):=by rw[Qi]<;>omega
   have ek:(0:Int)<(j:Int)+1:=by omega
   have hj0:(0:Int)<=(j:Int):=by omega
   have F5:(0:Int)<=(j:Int)+1:=by omega
   have hjn:¬(j:Int)<0:=by omega
   have F6:(j:Int)+1<(L.length:Int):=by omega
   have ee:IntKind.i64.wrap ((j:Int)+1+1)=((j+1+1:Nat):Int):=by rw[Qi]<;>omega
   by_cases c3:x.1<=y.1
   ·rw[if_pos (.inr (.inr (by rw[sw];simp[S0,c3])))]at ha;subst ha;simp[nC,F6,ek,hj0,F5,tE,sr,aa,sv,Qe,ir,keyOf,c1,c2,c3,mN,u9];exact⟨by simpa[Qe]using hk,by simpa[Qe]using hky⟩
   rw[if_neg (by rw[sw];simp[c1,c2,c3,S0])]at ha;simp[nC,F6,ek,hj0,F5,tE,sr,aa,sv,Qe,ir,keyOf,c1,c2,c3,mN,u9,ee];refine⟨by simpa[Qe]using hk,by simpa[Qe]using hky,aN,⟨j+1+1,_,by simp,by omega,ha,rfl⟩,by omega⟩
 obtain rfl:i=L.length:=by omega
 rw[zzan (by simp)]at ha;have ha:true=T:=by rw[<- ha];simp[Kl]
 subst ha;simp[nC,mN,u9]
def Ji(p:Pl):Bool:=wi p.ch 0 39&&(Ve p.nu p.de&&(Vy p.of p.sh&&(wi p.ep 0 9000000000&&(wi p.rg 1 8&&wi p.ln 1 100000000))))
def wU(p:Pl):Nat->FuncId->List AV->AV:=fun _ f l=>
 if f=183 then .bool (Ve p.nu p.de)else if f=184 then .bool (Vy p.of p.sh)else(match l with|[.int _ n,.int _ lo,.int _ up]=>.bool (wi n lo up)|_=>.junk)
def aeT(p:Pl)(gD:p.sh.length<=1000000000):Pure Tryz.prog az 192 [.ep (Qc p++[.junk,.junk]) 0] (.bool (Ji p)):=by
 have h1:=Yx p.ch 0 39;have h2:=Wl p.nu p.de;have h3:=jm p.of p.sh gD;have h4:=Yx p.ep 0 9000000000;have h5:=Yx p.rg 1 8;have h6:=Yx p.ln 1 100000000;refine Qn acM (wU p) (by simp) ?_;cases e1:wi p.ch 0 39 with
 |false=>rw[e1]at h1;simp[uO,uP,Qc,wU,Ji,e1];exact h1
 |true=>
  rw[e1]at h1;cases e2:Ve p.nu p.de with
  |false=>rw[e2]at h2;simp[uO,uP,Qc,wU,Ji,e1,e2];exact⟨h1,h2⟩
  |true=>
   rw[e2]at h2;cases e3:Vy p.of p.sh with
   |false=>rw[e3]at h3;simp[uO,uP,Qc,wU,Ji,e1,e2,e3];exact⟨h1,h2,h3⟩
   |true=>
    rw[e3]at h3;cases e4:wi p.ep 0 9000000000 with
    |false=>rw[e4]at h4;simp[uO,uP,Qc,wU,Ji,e1,e2,e3,e4];exact⟨h1,h2,h3,h4⟩
    |true=>
     rw[e4]at h4;cases e5:wi p.rg 1 8 with
     |false=>rw[e5]at h5;simp[uO,uP,Qc,wU,Ji,e1,e2,e3,e4,e5];exact⟨h1,h2,h3,h4,h5⟩
     |true=>rw[e5]at h5;simp[uO,uP,Qc,wU,Ji,e1,e2,e3,e4,e5];exact⟨h1,h2,h3,h4,h5,h6⟩
def aeU:List Cl->Bool
 |[]=>true
 |c::r=>Xj c&&aeU r
def Qda(p:Pl):Bool:=decide (p.cls.length<=400)&&aeU p.cls
def AR:Nat->FuncId->List AV->AV:=fun _ _ l=>match l with
 |[.agg [.int _ a,.int _ b,.int _ c,.int _ d,.int _ e,.int _ f,.int _ g,.int _ h]]=>.bool (Xj ⟨a,b,c,d,e,f,g,h⟩)
 |_=>.junk
def Q3(p:Pl)(hc:p.cls.length<=1000000000):Pure Tryz.prog az 196 [.ep (Qc p++[.junk,.junk]) 0] (.bool (Qda p)):=by
 refine Qn acQ AR (by simp) ?_;by_cases h0:p.cls.length<=400
 ·have yV:¬(400:Int)<(p.cls.length:Int):=by omega
  obtain⟨T,hT⟩:∃T,Qda p=T:=⟨_,rfl⟩;rw[hT];simp[T1,Qc,yV];refine Qj BF (N1 18 p.cls.length fun i=>aeU (p.cls.drop i)=T) (fun f _=>p.cls.length-(numOf (f 18)).toNat) ?_ ?_
  ·exact⟨0,_,by simp,by omega,by rw[<- hT];simp[Qda,h0],rfl⟩
  rintro f m ⟨i,bx,h18,hi,ha,rfl⟩;rcases zzaa i p.cls.length with ai|bB
  ·obtain⟨x,hx⟩:=aR ai;have aa:Qh (p.cls.map Qg) i=Qg x:=Qs (by simp[hx]);have ah:(i:Int)<(p.cls.length:Int):=by omega
   have hw:=bJ i (by omega);have hk:=Ko x;rw[Xz hx,aeU]at ha;cases hv:Xj x with
   |false=>
    rw[hv]at ha hk;simp at ha;simp[h18,ah,aa,Qg,AR,hv,BF,Em,ha];simpa[Qg]using hk
   |true=>
    rw[hv]at ha hk;simp at ha;simp[h18,ah,aa,Qg,AR,hv,BF,Em,hw];refine⟨by simpa[Qg]using hk,aN,⟨i+1,_,by simp,by omega,ha,rfl⟩,by omega⟩
  obtain rfl:i=p.cls.length:=by omega
  rw[zzbr]at ha;have ha:true=T:=ha;subst ha;simp[h18,BF,Em]
 have yV:(400:Int)<(p.cls.length:Int):=by omega
 simp[T1,Em,Qc,Qda,h0,yV]
open Go Go.Abs
def mI(l:List It):List (List Int×AV):=l.map fun x=>([x.id],.agg (Qm x))
def mK(l:List Bk):List (List Int×AV):=l.map fun x=>([x.id],.agg (Xf x))
def F7(id:Int):List Bk->Option Bk
 |[]=>none
 |x::r=>if x.id=id then some x else F7 id r
def wV{k:List Int}:∀{kvs:List (List Int×AV)}{i:Nat},(∀p∈kvs,p.1≠k)->Xi k kvs i=none
 |[],_,_=>rfl
 |(k',a)::r,i,h=>by
  rw[Xi,if_neg (fun e=>h (k',a) (by simp) e.symm)];exact wV fun p hp=>h p (by simp[hp])
def amr(id:Int):∀(l:List It)(i:Nat),(Xh id l=none->Xi [id] (mI l) i=none)/\∀x,Xh id l=some x->∃n,Xi [id] (mI l) i=some (n,.agg (Qm x))
 |[],i=>⟨fun _=>rfl,fun x h=>by cases h⟩
 |y::r,i=>by
  have ih:=amr id r (i+1);simp only[mI,zzaw,Xi,Xh]at ih |-
  by_cases h:y.id=id
  ·rw[if_pos h,if_pos (by rw[h])];exact⟨fun h=>(by cases h),fun x h=>(by cases h;exact⟨i,rfl⟩)⟩
  rw[if_neg h,if_neg (by intro e;cases e;exact h rfl)];exact ih
def arU(id:Int):∀(l:List Bk)(i:Nat),(F7 id l=none->Xi [id] (mK l) i=none)/\∀x,F7 id l=some x->∃n,Xi [id] (mK l) i=some (n,.agg (Xf x))
 |[],i=>⟨fun _=>rfl,fun x h=>by cases h⟩
 |y::r,i=>by
  have ih:=arU id r (i+1);simp only[mK,zzaw,Xi,F7]at ih |-
  by_cases h:y.id=id
  ·rw[if_pos h,if_pos (by rw[h])];exact⟨fun h=>(by cases h),fun x h=>(by cases h;exact⟨i,rfl⟩)⟩
  rw[if_neg h,if_neg (by intro e;cases e;exact h rfl)];exact ih
def kR{lo up:Int}:∀{ks:List Int}{pr:Option Int},Kl lo up pr ks=true->ks.Pairwise (·<·)/\∀k∈ks,lo<=k/\k<=up/\∀q,pr=some q->q<k
 |[],pr,_=>⟨List.Pairwise.nil,fun k hk=>by cases hk⟩
 |k::r,pr,h=>by
  rw[Kl]at h;split at h
  ·cases h
  rename_i hn;simp only[not_or]at hn;obtain⟨h1,h2⟩:=kR h
  have hk:∀q,pr=some q->q<k:=fun q hq=>by
   have:=hn.2.2;subst hq;simp[S0]at this;omega
  refine⟨zzbw.2 ⟨fun a ha=>(h2 a ha).2.2 k rfl,h1⟩,fun a ha=>?_⟩;rcases zzau.1 ha with rfl|ha
  ·exact⟨by omega,by omega,hk⟩
  obtain⟨g1,g2,g3⟩:=h2 a ha;refine⟨g1,g2,fun q hq=>?_⟩;have:=hk q hq;have:=g3 k rfl;omega
def wW{α:Type}{key:α->Int}{row:α->AV}{l:List α}{i:Nat}{x:α}(h:(l.map key).Pairwise (·<·))(hx:l[i]?=some x):Xi [key x] ((l.take i).map fun x=>([key x],row x)) 0=none:=by
 refine wV fun p hp=>?_;obtain⟨y,hy,rfl⟩:=zzay.1 hp;obtain⟨j,hj,pY⟩:=zzfv hy;rw[zzaq]at hj;rw[List.getElem_take]at pY;obtain⟨hi,hx⟩:=zza.1 hx
 have ai:key l[j]<key l[i]:=by
  have:=zzd.1 h j i (by simp;omega) (by simpa using hi) (by omega);simpa using this
 intro e;rw[<- pY,<- hx]at e;simp only[List.cons.injEq,and_true]at e;omega
def S1(x:It):Bool:=wi x.ki 1 5&&(wi x.fr 1 100000000&&(wi x.sp 0 200&&wi x.ra 0 3))
def wX:List It->Bool
 |[]=>true
 |x::r=>S1 x&&wX r
def vW(p:Pl):Bool:=match Xh p.fi p.aM with
 |some x=>decide (x.ki=5)
 |none=>false
def S2(p:Pl):Bool:=decide (p.aM.length<=4000)&&(Kl 1 1000000 none (p.aM.map fun x=>x.id)&&(wX p.aM&&vW p))
def bV(p:Pl)(kI kB:List (List Int×AV))(bx:List (List AV)):AM:=⟨Qc p::[.aK 0 kI]::[.aK 0 kB]::(Qc p++[.mp 1,.mp 2])::bx,[],fun _=>.gone,0⟩
def aeV(x:It):Idle (.agg (Qm x)):=Idle.agg fun c hc=>by
 simp only[Qm,zzau,zzdq,or_false]at hc;rcases hc with rfl|rfl|rfl|rfl|rfl<;>exact Idle.int _ _
def aeW(x:Bk):Idle (.agg (Xf x)):=Idle.agg fun c hc=>by
 simp only[Xf,zzau,zzdq,or_false]at hc;rcases hc with rfl|rfl|rfl|rfl|rfl|rfl|rfl<;>exact Idle.int _ _
def BkK(p:Pl)(K:AV->AM->Prop)(r:AV)(m:AM):Prop:=∃kI kB bx,m=bV p kI kB bx/\(∀e∈kI,Idle e.2)/\(∀e∈kB,Idle e.2)/\Idle r/\K r (bV p kI kB [])
def AT{p:Pl}{K:AV->AM->Prop}{r:AV}{m:AM}(kI kB:List (List Int×AV))(bx:List (List AV))(hm:m=bV p kI kB bx)(h1:∀e∈kI,Idle e.2)(h2:∀e∈kB,Idle e.2)(h3:Idle r)(h4:K r (bV p kI kB [])):BkK p K r m:=⟨kI,kB,bx,hm,h1,h2,h3,h4⟩
def sx{f:FuncId}{xs:List AV}{p:Pl}{Y:YT}{k0 b0:List (List Int×AV)}{K:AV->AM->Prop}
  (h:an Tryz.prog az Y f xs (bV p k0 b0 []) (BkK p K)):an Tryz.prog az Y f xs (bV p k0 b0 []) K:=by
 refine an.forget (an.mono h ?_);rintro r m' ⟨kI,kB,bx,rfl,h1,h2,h3,h4⟩;refine⟨bV p kI kB [],bx,rfl,rfl,rfl,fun id cells hc=>?_,h3,h4⟩
 match id,hc with
 |0,hc=>exact .inl hc
 |1,hc=>cases hc;exact .inr (.inr ⟨0,kI,rfl,h1⟩)
 |2,hc=>cases hc;exact .inr (.inr ⟨0,kB,rfl,h2⟩)
 |3,hc=>exact .inl hc
 |n+4,hc=>cases hc
def o8(p:Pl):Nat->FuncId->List AV->AV:=fun _ f l=>
 if f=266 then .bool (Kl 1 1000000 none (p.aM.map fun x=>x.id))else(match l with|[.int _ n,.int _ lo,.int _ up]=>.bool (wi n lo up)|_=>.junk)
def Vr(l:List It):∀e∈mI l,Idle e.2:=fun e he=>by
 obtain⟨x,_,rfl⟩:=zzay.1 he;exact aeV x
def Qat(l:List Bk):∀e∈mK l,Idle e.2:=fun e he=>by
 obtain⟨x,_,rfl⟩:=zzay.1 he;exact aeW x
def aeX{l:List It}{i:Nat}{x:It}(h:l[i]?=some x):mI (l.take (i+1))=mI (l.take i)++[([x.id],.agg (Qm x))]:=by
 simp[mI,zzar,h]
def aeY{l:List Bk}{i:Nat}{x:Bk}(h:l[i]?=some x):mK (l.take (i+1))=mK (l.take i)++[([x.id],.agg (Xf x))]:=by
 simp[mK,zzar,h]
def Uw{P:List Int×AV->Prop}:∀e∈([]:List (List Int×AV)),P e:=fun e h=>by cases h
def ajx(s n:Nat)(p:Pl)(kI kB:Nat->List (List Int×AV))(R:Nat->Prop)(f:Nat->AV)(m:AM):Prop:=∃(i:Nat)(bx:List (List AV)),f s=I i/\i<=n/\R i/\m=bV p (kI i) (kB i) bx
def aeZ(p:Pl)(hl:p.aM.length<=1000000000)(Y:YT)(K:AV->AM->Prop)(hK1:S2 p=true->K (.bool true) (bV p (mI p.aM) [] []))(qU:S2 p=false->∀kI,K (.bool false) (bV p kI [] [])):
  an Tryz.prog az Y 193 [.ptr 3 0] (bV p [] [] []) K:=by
 have N2:=Q0 p.aM 1 1000000 (by omega);refine sx ?_;refine Xd acN (o8 p) (by simp) ?_;by_cases h0:p.aM.length<=4000
 ·have yV:¬(4000:Int)<(p.aM.length:Int):=by omega
  cases ha:Kl 1 1000000 none (p.aM.map fun x=>x.id)with
  |false=>
   rw[ha]at N2;simp[Ek,oe,bV,Qc,yV,o8,ha];exact⟨N2,AT _ _ _ rfl Uw Uw (Idle.bool _) (qU (by simp[S2,ha]) [])⟩
  |true=>
   rw[ha]at N2;have hp:=(kR ha).1;simp[Ek,bV,Qc,yV,o8,ha];refine⟨N2,?_⟩;refine Qj iL (ajx 27 p.aM.length p (fun i=>mI (p.aM.take i)) (fun _=>[]) fun i=>wX (p.aM.drop i)=wX p.aM) (fun f _=>p.aM.length-(numOf (f 27)).toNat) ?_ ?_
   ·exact⟨0,[],by simp,by omega,by simp,by simp[bV,Qc,mI]⟩
   rintro f m ⟨i,bx,h27,hi,ey,rfl⟩;rcases zzaa i p.aM.length with ai|bB
   ·obtain⟨x,hx⟩:=aR ai;have aa:Qh (p.aM.map Qm) i=Qm x:=Qs (by simp[hx]);have ah:(i:Int)<(p.aM.length:Int):=by omega
    have hw:=bJ i (by omega);have hkf:Xi [x.id] (mI (p.aM.take i)) 0=none:=wW (key:=fun x=>x.id) (row:=fun x=>.agg (Qm x)) hp hx;have bz:=aeX hx;rw[Xz hx,wX]at ey;have h1:=Yx x.ki 1 5;have h2:=Yx x.fr 1 100000000;have h3:=Yx x.sp 0 200;have h4:=Yx x.ra 0 3;have bad:S1 x=false->S2 p=false:=fun h=>by rw[h]at ey;simp[S2,<- ey]
    cases e1:wi x.ki 1 5 with
    |false=>
     rw[e1]at h1;simp[h27,ah,aa,Qm,bV,Qc,o8,e1,iL,oe];exact⟨h1,AT _ _ _ rfl (Vr _) Uw (Idle.bool _) (qU (bad (by simp[S1,e1])) _)⟩
    |true=>
     rw[e1]at h1;cases e2:wi x.fr 1 100000000 with
     |false=>
      rw[e2]at h2;simp[h27,ah,aa,Qm,bV,Qc,o8,e1,e2,iL,oe];exact⟨h1,h2,AT _ _ _ rfl (Vr _) Uw (Idle.bool _) (qU (bad (by simp[S1,e1,e2])) _)⟩
     |true=>
      rw[e2]at h2;cases e3:wi x.sp 0 200 with
      |false=>
       rw[e3]at h3;simp[h27,ah,aa,Qm,bV,Qc,o8,e1,e2,e3,iL,oe];exact⟨h1,h2,h3,AT _ _ _ rfl (Vr _) Uw (Idle.bool _) (qU (bad (by simp[S1,e1,e2,e3])) _)⟩
      |true=>
       rw[e3]at h3;cases e4:wi x.ra 0 3 with
       |false=>
        rw[e4]at h4;simp[h27,ah,aa,Qm,bV,Qc,o8,e1,e2,e3,e4,iL,oe];exact⟨h1,h2,h3,h4,AT _ _ _ rfl (Vr _) Uw (Idle.bool _) (qU (bad (by simp[S1,e1,e2,e3,e4])) _)⟩
       |true=>
        rw[e4]at h4;have bT:S1 x=true:=by simp[S1,e1,e2,e3,e4]
        rw[bT,zzdw]at ey;simp[h27,ah,aa,Qm,bV,Qc,o8,e1,e2,e3,e4,iL,hw,hkf];refine⟨h1,h2,h3,h4,aN,⟨i+1,bx++[Qm x],by simp,by omega,ey,?_⟩,by omega⟩
        ·simp only[bz];simp[Qm,bV,Qc]
   have bI:¬(i:Int)<(p.aM.length:Int):=by omega
   rw[zzan bB]at ey;have qE:p.aM.take i=p.aM:=zzam bB;simp only[qE];have ey:wX p.aM=true:=by rw[<- ey];rfl
   obtain⟨g1,g2⟩:=amr p.fi p.aM 0;cases hf:Xh p.fi p.aM with
   |none=>
    have g:=g1 hf;simp[h27,bI,iL,oe,bV,Qc,g];exact AT _ _ _ rfl (Vr _) Uw (Idle.bool _) (qU (by simp[S2,vW,hf]) _)
   |some x=>
    obtain⟨n,g⟩:=g2 x hf;simp[h27,bI,iL,oe,bV,Qc,g,Qm];by_cases h5:x.ki=5
    ·simp only[h5];exact AT _ _ _ rfl (Vr _) Uw (Idle.bool _) (hK1 (by simp[S2,vW,hf,h0,ha,ey,h5]))
    have h5':(x.ki==5)=false:=by simpa using h5
    rw[h5'];exact AT _ _ _ rfl (Vr _) Uw (Idle.bool _) (qU (by simp[S2,vW,hf,h5]) _)
 have yV:(4000:Int)<(p.aM.length:Int):=by omega
 simp[Ek,oe,bV,Qc,yV,o8];exact AT _ _ _ rfl Uw Uw (Idle.bool _) (qU (by simp[S2,h0]) [])
open Go Go.Abs
def CR(x:Bk):Bool:=decide (0<=x.fr)&&(decide (x.fr<x.to)&&(decide (x.to<=x.un)&&decide (x.un<=100000000)))
def kindOf(p:Pl)(id:Int):Int:=match Xh id p.aM with
 |some y=>y.ki
 |none=>0
def X7(p:Pl)(x:Bk):Bool:=decide (kindOf p x.it=2)&&(wi x.re 0 (p.rg-1)&&(CR x&&wi x.pr 0 1000000000))
def Q4(p:Pl):List Bk->Bool
 |[]=>true
 |x::r=>X7 p x&&Q4 p r
def jx(p:Pl):Bool:=decide (p.bks.length<=2000)&&(Kl 1 1000000 none (p.bks.map fun x=>x.id)&&Q4 p p.bks)
def CS(p:Pl)(id:Int):∃r,Xi [id] (mI p.aM) 0=r/\((∃n x,Xh id p.aM=some x/\r=some (n,.agg (Qm x)))\/(Xh id p.aM=none/\r=none)):=by
 obtain⟨g1,g2⟩:=amr id p.aM 0;cases hf:Xh id p.aM with
 |none=>exact⟨_,rfl,.inr ⟨rfl,g1 hf⟩⟩
 |some x=>
  obtain⟨n,g⟩:=g2 x hf;exact⟨_,rfl,.inl ⟨n,x,rfl,g⟩⟩
def Q5(p:Pl):Nat->FuncId->List AV->AV:=fun _ f l=>
 if f=267 then .bool (Kl 1 1000000 none (p.bks.map fun x=>x.id))else(match l with|[.int _ n,.int _ lo,.int _ up]=>.bool (wi n lo up)|_=>.junk)
def ae0(p:Pl)(hl:p.bks.length<=8796093022208)(K0:1<=p.rg/\p.rg<=8)(Y:YT)(K:AV->AM->Prop)(hK1:jx p=true->K (.bool true) (bV p (mI p.aM) (mK p.bks) []))(qU:jx p=false->∀kB,K (.bool false) (bV p (mI p.aM) kB [])):
  an Tryz.prog az Y 194 [.ptr 3 0] (bV p (mI p.aM) [] []) K:=by
 have N2:=Q1 p.bks 1 1000000 hl;refine sx ?_;refine Xd acO (Q5 p) (by simp) ?_;by_cases h0:p.bks.length<=2000
 ·have yV:¬(2000:Int)<(p.bks.length:Int):=by omega
  cases ha:Kl 1 1000000 none (p.bks.map fun x=>x.id)with
  |false=>
   rw[ha]at N2;simp[El,fD,bV,Qc,yV,Q5,ha];exact⟨N2,AT _ _ _ rfl (Vr _) Uw (Idle.bool _) (qU (by simp[jx,ha]) [])⟩
  |true=>
   rw[ha]at N2;have hp:=(kR ha).1;simp[El,bV,Qc,yV,Q5,ha];refine⟨N2,?_⟩;refine Qj eC (ajx 28 p.bks.length p (fun _=>mI p.aM) (fun i=>mK (p.bks.take i)) fun i=>Q4 p (p.bks.drop i)=Q4 p p.bks) (fun f _=>p.bks.length-(numOf (f 28)).toNat) ?_ ?_
   ·exact⟨0,[],by simp,by omega,by simp,by simp[bV,Qc,mK]⟩
   rintro f m ⟨i,bx,h28,hi,ey,rfl⟩;rcases zzaa i p.bks.length with ai|bB
   ·obtain⟨x,hx⟩:=aR ai;have aa:Qh (p.bks.map Xf) i=Xf x:=Qs (by simp[hx]);have ah:(i:Int)<(p.bks.length:Int):=by omega
    have hw:=bJ i (by omega);have qc:IntKind.i64.wrap (p.rg-1)=p.rg-1:=by rw[Qi]<;>omega
    have hkf:Xi [x.id] (mK (p.bks.take i)) 0=none:=wW (key:=fun x=>x.id) (row:=fun x=>.agg (Xf x)) hp hx;have bz:=aeY hx;rw[Xz hx,Q4]at ey;have h1:=Yx x.re 0 (p.rg-1);have h2:=Yx x.pr 0 1000000000;have bad:X7 p x=false->jx p=false:=fun h=>by rw[h]at ey;simp[jx,<- ey]
    obtain⟨r,hr,Q6⟩:=CS p x.it;by_cases fL:kindOf p x.it=2
    ·obtain⟨n,y,hf,rfl⟩|⟨hf,rfl⟩:=Q6
     ·have hy:y.ki=2:=by simpa[kindOf,hf]using fL
      cases e1:wi x.re 0 (p.rg-1)with
      |false=>
       rw[e1]at h1;simp[h28,ah,aa,Xf,bV,Qc,Q5,hr,Qm,hy,qc,e1,eC,fD];exact⟨h1,AT _ _ _ rfl (Vr _) (Qat _) (Idle.bool _) (qU (bad (by simp[X7,e1])) _)⟩
      |true=>
       rw[e1]at h1;cases e2:CR x with
       |false=>
        have e2':¬(0<=x.fr)\/(0<=x.fr/\¬x.fr<x.to)\/(0<=x.fr/\x.fr<x.to/\¬x.to<=x.un)\/(0<=x.fr/\x.fr<x.to/\x.to<=x.un/\¬x.un<=100000000):=by
         simp[CR]at e2;omega
        obtain c1|⟨c1,c2⟩|⟨c1,c2,c3⟩|⟨c1,c2,c3,c4⟩:=e2'
        ·simp[h28,ah,aa,Xf,bV,Qc,Q5,hr,Qm,hy,qc,e1,c1,eC,fD];exact⟨h1,AT _ _ _ rfl (Vr _) (Qat _) (Idle.bool _) (qU (bad (by simp[X7,e1,e2])) _)⟩
        ·simp[h28,ah,aa,Xf,bV,Qc,Q5,hr,Qm,hy,qc,e1,c1,c2,eC,fD];exact⟨h1,AT _ _ _ rfl (Vr _) (Qat _) (Idle.bool _) (qU (bad (by simp[X7,e1,e2])) _)⟩
        ·simp[h28,ah,aa,Xf,bV,Qc,Q5,hr,Qm,hy,qc,e1,c1,c2,c3,eC,fD];exact⟨h1,AT _ _ _ rfl (Vr _) (Qat _) (Idle.bool _) (qU (bad (by simp[X7,e1,e2])) _)⟩
        simp[h28,ah,aa,Xf,bV,Qc,Q5,hr,Qm,hy,qc,e1,c1,c2,c3,c4,eC,fD];exact⟨h1,AT _ _ _ rfl (Vr _) (Qat _) (Idle.bool _) (qU (bad (by simp[X7,e1,e2])) _)⟩
       |true=>
        have e2':0<=x.fr/\x.fr<x.to/\x.to<=x.un/\x.un<=100000000:=by
         simp[CR]at e2;omega
        obtain⟨c1,c2,c3,c4⟩:=e2';cases e3:wi x.pr 0 1000000000 with
        |false=>
         rw[e3]at h2;simp[h28,ah,aa,Xf,bV,Qc,Q5,hr,Qm,hy,qc,e1,c1,c2,c3,c4,e3,eC,fD];exact⟨h1,h2,AT _ _ _ rfl (Vr _) (Qat _) (Idle.bool _) (qU (bad (by simp[X7,e1,e2,e3])) _)⟩
        |true=>
         rw[e3]at h2;have bT:X7 p x=true:=by simp[X7,fL,e1,e2,e3]
         rw[bT,zzdw]at ey;simp[h28,ah,aa,Xf,bV,Qc,Q5,hr,Qm,hy,qc,e1,c1,c2,c3,c4,e3,eC,fD,hw,hkf];refine⟨h1,h2,aN,⟨i+1,bx++[Xf x],by simp,by omega,ey,?_⟩,by omega⟩
         ·simp only[bz];simp[Xf,bV,Qc]
     simp[kindOf,hf]at fL
    have hb:=bad (by simp[X7,fL]);obtain⟨n,y,hf,rfl⟩|⟨hf,rfl⟩:=Q6
    ·have hy:¬y.ki=2:=by simpa[kindOf,hf]using fL
     simp[h28,ah,aa,Xf,bV,Qc,Q5,hr,Qm,hy,qc,eC,fD];exact AT _ _ _ rfl (Vr _) (Qat _) (Idle.bool _) (qU hb _)
    simp[h28,ah,aa,Xf,bV,Qc,Q5,hr,qc,eC,fD];exact AT _ _ _ rfl (Vr _) (Qat _) (Idle.bool _) (qU hb _)
   have bI:¬(i:Int)<(p.bks.length:Int):=by omega
   rw[zzan bB]at ey;have qE:p.bks.take i=p.bks:=zzam bB;simp only[qE];have ey:Q4 p p.bks=true:=by rw[<- ey];rfl
   simp[h28,bI,eC,fD,bV,Qc];exact AT _ _ _ rfl (Vr _) (Qat _) (Idle.bool _) (hK1 (by simp[jx,h0,ha,ey]))
 have yV:(2000:Int)<(p.bks.length:Int):=by omega
 simp[El,fD,bV,Qc,yV,Q5];exact AT _ _ _ rfl (Vr _) Uw (Idle.bool _) (qU (by simp[jx,h0]) [])
open Go Go.Abs
def RdK(m:AM)(K:AV->AM->Prop)(r:AV)(m':AM):Prop:=∃ex,m'={m with boxes:=m.boxes++ex}/\Idle r/\K r m
def o9{m:AM}{K:AV->AM->Prop}{r:AV}{m':AM}(ex:List (List AV))(hm:m'={m with boxes:=m.boxes++ex})(hi:Idle r)(hK:K r m):RdK m K r m':=⟨ex,hm,hi,hK⟩
def Kr{f:FuncId}{xs:List AV}{m:AM}{Y:YT}{K:AV->AM->Prop}(h:an Tryz.prog az Y f xs m (RdK m K)):an Tryz.prog az Y f xs m K:=by
 refine an.mono (an.read (K:=fun r=>K r m) (an.mono h fun r m' h=>h)) ?_;rintro r m' ⟨rfl,h⟩;exact h
def pe:∀{l:List It},wX l=true->∀x∈l,S1 x=true
 |y::r,h,x,hx=>by
  rw[wX,zzak]at h;rcases zzau.1 hx with rfl|hx
  ·exact h.1
  exact pe h.2 x hx
def X8{x:It}(h:S1 x=true):(1<=x.ki/\x.ki<=5)/\(1<=x.fr/\x.fr<=100000000)/\(0<=x.sp/\x.sp<=200)/\(0<=x.ra/\x.ra<=3):=by
 simp only[S1,wi,zzak,decide_eq_true_eq]at h;exact h
def jy(p:Pl)(e:En):Bool:=match Xh e.it p.aM with
 |none=>false
 |some y=>if y.ki=5 then false else if wi e.fr 1 y.fr=false then false else if y.ki≠4/\e.fr≠y.fr then false else decide (0<=e.ea)&&(decide (e.ea<=e.la)&&decide (e.la<=p.ln-e.fr))
def jH:Nat->FuncId->List AV->AV:=fun _ f l=>match l with|[.int _ n,.int _ lo,.int _ up]=>.bool (wi n lo up)|_=>.junk
def ams(p:Pl)(e:En)(kB:List (List Int×AV))(bx:List (List AV))(X9:wX p.aM=true)(dm:1<=p.ln/\p.ln<=100000000)(Y:YT)(K:AV->AM->Prop)(hK:∀b,jy p e=b->K (.bool b) (bV p (mI p.aM) kB bx)):
  an Tryz.prog az Y 269 [.ptr 3 0,.agg (Qd e)] (bV p (mI p.aM) kB bx) K:=by
 refine Kr (Xd adD jH (by simp) ?_);obtain⟨r,hr,Q6⟩:=CS p e.it;simp[aik,ail,bV,Qc,Qd];refine Za ?_;obtain⟨n,y,hf,rfl⟩|⟨hf,rfl⟩:=Q6
 ·obtain⟨g1,g2,g3,g4⟩:=X8 (pe X9 y (wY hf).1);have h1:=Yx e.fr 1 y.fr;by_cases c1:y.ki=5
  ·simp[hr,Qm,c1];exact o9 _ rfl (Idle.bool _) (hK _ (by simp[jy,hf,c1]))
  cases c2:wi e.fr 1 y.fr with
  |false=>
   rw[c2]at h1;simp[hr,Qm,c1,c2,jH];exact⟨h1,o9 _ rfl (Idle.bool _) (hK _ (by simp[jy,hf,c1,c2]))⟩
  |true=>
   rw[c2]at h1;have c2':1<=e.fr/\e.fr<=y.fr:=by simpa[wi]using c2
   have hw:IntKind.i64.wrap (p.ln-e.fr)=p.ln-e.fr:=by rw[Qi]<;>omega
   by_cases c3:y.ki≠4/\e.fr≠y.fr
   ·simp[hr,Qm,c1,c2,jH,c3.1,c3.2];exact⟨h1,o9 _ rfl (Idle.bool _) (hK _ (by simp[jy,hf,c1,c2,c3.1,c3.2]))⟩
   have fin:∀b,(decide (0<=e.ea)&&(decide (e.ea<=e.la)&&decide (e.la<=p.ln-e.fr)))=b->jy p e=b:=fun b hb=>by
    rw[jy,hf];simp only;rw[if_neg c1,if_neg (by simp[c2]),if_neg c3];exact hb
   have c3':y.ki=4\/(¬y.ki=4/\e.fr=y.fr):=by
    by_cases h:y.ki=4
    ·exact .inl h
    exact .inr ⟨h,by by_cases h':e.fr=y.fr;exact h';exact absurd ⟨h,h'⟩ c3⟩
   by_cases d1:0<=e.ea
   ·by_cases d2:e.ea<=e.la
    ·by_cases d3:e.la<=p.ln-e.fr
     ·obtain c|⟨c,c'⟩:=c3'
      ·simp[hr,Qm,c2,jH,c,hw,d1,d2,d3];exact⟨h1,o9 _ rfl (Idle.bool _) (hK _ (fin _ (by simp[d1,d2,d3])))⟩
      rw[<- c']at c2 h1;simp[hr,Qm,c1,c2,jH,c,<- c',hw,d1,d2,d3];exact⟨h1,o9 _ rfl (Idle.bool _) (hK _ (fin _ (by simp[d1,d2,d3])))⟩
     obtain c|⟨c,c'⟩:=c3'
     ·simp[hr,Qm,c2,jH,c,hw,d1,d2,d3];exact⟨h1,o9 _ rfl (Idle.bool _) (hK _ (fin _ (by simp[d1,d2,d3])))⟩
     rw[<- c']at c2 h1;simp[hr,Qm,c1,c2,jH,c,<- c',hw,d1,d2,d3];exact⟨h1,o9 _ rfl (Idle.bool _) (hK _ (fin _ (by simp[d1,d2,d3])))⟩
    obtain c|⟨c,c'⟩:=c3'
    ·simp[hr,Qm,c2,jH,c,d1,d2];exact⟨h1,o9 _ rfl (Idle.bool _) (hK _ (fin _ (by simp[d1,d2])))⟩
    rw[<- c']at c2 h1;simp[hr,Qm,c1,c2,jH,c,<- c',d1,d2];exact⟨h1,o9 _ rfl (Idle.bool _) (hK _ (fin _ (by simp[d1,d2])))⟩
   obtain c|⟨c,c'⟩:=c3'
   ·simp[hr,Qm,c2,jH,c,d1];exact⟨h1,o9 _ rfl (Idle.bool _) (hK _ (fin _ (by simp[d1])))⟩
   rw[<- c']at c2 h1;simp[hr,Qm,c1,c2,jH,c,<- c',d1];exact⟨h1,o9 _ rfl (Idle.bool _) (hK _ (fin _ (by simp[d1])))⟩
 simp[hr];exact o9 _ rfl (Idle.bool _) (hK _ (by simp[jy,hf]))
open Go Go.Abs
def zl(p:Pl)(e:En)(a:Sp):Bool:=match Xh a.2 p.aM with
 |none=>false
 |some y=>decide (y.fr=e.fr)&&(decide (y.ki≠5)&&decide (y.ki≠4))
def N3(p:Pl)(e:En)(kB:List (List Int×AV))(b0:List (List AV)):AM:=bV p (mI p.aM) kB (b0++[[.ptr 3 0],Qd e])
def rdA{p:Pl}{e:En}{kB:List (List Int×AV)}{b0:List (List AV)}{K:AV->AM->Prop}{r:AV}{m':AM}(ex:List (List AV))(hm:m'=bV p (mI p.aM) kB (b0++([.ptr 3 0]::Qd e::ex)))(hi:Idle r)(hK:K r (N3 p e kB b0)):RdK (N3 p e kB b0) K r m':=
 o9 ex (by rw[hm];simp[N3,bV]) hi hK
def Ys(p:Pl)(e:En)(a:Sp)(kB:List (List Int×AV))(b0:List (List AV))(Y:YT)(K:AV->AM->Prop)(hK:K (.bool (!zl p e a)) (N3 p e kB b0)):
  an Tryz.prog az Y 315 [.agg (Qe a),.ptr (b0.length+4) 0,.ptr (b0.length+5) 0] (N3 p e kB b0) K:=by
 refine Kr (Xd adW (fun _ _ _=>.junk) (by simp) ?_);obtain⟨r,hr,Q6⟩:=CS p a.2;simp[aiA,aiB,N3,bV,Qc,Qd,Qe];refine Za ?_;obtain⟨n,y,hf,rfl⟩|⟨hf,rfl⟩:=Q6
 ·by_cases c1:y.fr=e.fr
  ·by_cases c2:y.ki=5
   ·have:(!zl p e a)=true:=by simp[zl,hf,c1,c2]
    rw[this]at hK;simp[hr,Qm,c1,c2];exact rdA _ rfl (Idle.bool _) hK
   by_cases c3:y.ki=4
   ·have:(!zl p e a)=true:=by simp[zl,hf,c1,c3]
    rw[this]at hK;simp[hr,Qm,c1,c3];exact rdA _ rfl (Idle.bool _) hK
   have:(!zl p e a)=false:=by simp[zl,hf,c1,c2,c3]
   rw[this]at hK;have h':(y.ki==5||y.ki==4)=false:=by simp[c2,c3]
   simp[hr,Qm,c1,c2];rw[h'];exact rdA _ rfl (Idle.bool _) hK
  have:(!zl p e a)=true:=by simp[zl,hf,c1]
  rw[this]at hK;have h':(y.fr !=e.fr||y.ki==5||y.ki==4)=true:=by simp[c1]
  simp[hr,Qm,c1];rw[h'];exact rdA _ rfl (Idle.bool _) hK
 have:(!zl p e a)=true:=by simp[zl,hf]
 rw[this]at hK;simp[hr];exact rdA _ rfl (Idle.bool _) hK
def jI{α:Type}(b:α->Bool):List α->Nat->Int
 |[],_=> -1
 |x::r,i=>if b x=true then(i:Int)else jI b r (i+1)
def wZ{α:Type}(b:α->Bool):∀(l:List α)(i:Nat),(0<=jI b l i<->l.any b=true)
 |[],i=>by simp[jI]
 |x::r,i=>by
  rw[jI];cases h:b x with
  |true=>simp[h]
  |false=>simp[h,wZ b r (i+1)]
def arV(s n:Nat)(m0:AM)(R:Nat->Prop)(f:Nat->AV)(m:AM):Prop:=∃(i:Nat),f s=I i/\i<=n/\R i/\m=m0
def YA(p:Pl)(e:En)(L:List Sp)(hl:L.length<=8796093022208)(kB:List (List Int×AV))(b0:List (List AV))(Y:YT)(K:AV->AM->Prop)(hK:K (I (jI (fun a=>!zl p e a) L 0)) (N3 p e kB b0)):
  an Tryz.prog az Y 345 [.sl .ro (L.map Qe),.fn 315 [] [.ptr (b0.length+4) 0,.ptr (b0.length+5) 0]] (N3 p e kB b0) K:=by
 obtain⟨T,hT⟩:∃T,jI (fun a=>!zl p e a) L 0=T:=⟨_,rfl⟩;rw[hT]at hK;refine Xd ad4 (fun _ _ _=>.gd false .junk) (by simp) ?_;simp[aiP];refine Qj JC (arV 8 L.length (N3 p e kB b0) fun i=>jI (fun a=>!zl p e a) (L.drop i) i=T) (fun f _=>L.length-(numOf (f 8)).toNat) ?_ ?_
 ·exact⟨0,by simp,by omega,by simpa using hT,rfl⟩
 rintro f m ⟨i,h8,hi,hx,rfl⟩;rcases zzaa i L.length with ai|bB
 ·obtain⟨a,ha⟩:=aR ai;have aa:=Zd ha;have ah:(i:Int)<(L.length:Int):=by omega
  have hw:=bJ i (by omega);rw[Xz ha,jI]at hx;simp[h8,ah,aa,JC,UZ];refine Ys p e a kB b0 Y _ ?_;cases hb:zl p e a with
  |false=>
   rw[hb]at hx;simp at hx;simp[hx];exact hK
  |true=>
   rw[hb]at hx;simp at hx;simp[hw];refine⟨aN,⟨i+1,by simp,by omega,hx,rfl⟩,by omega⟩
 have bI:¬(i:Int)<(L.length:Int):=by omega
 rw[zzan bB,jI]at hx;simp[h8,bI,JC,UZ,hx];exact hK
def K1(p:Pl)(e:En)(L:List Sp)(hl:L.length<=8796093022208)(kB:List (List Int×AV))(b0:List (List AV))(Y:YT)(K:AV->AM->Prop)(hK:K (.bool (L.any fun a=>!zl p e a)) (N3 p e kB b0)):
  an Tryz.prog az Y 316 [.sl .ro (L.map Qe),.fn 315 [] [.ptr (b0.length+4) 0,.ptr (b0.length+5) 0]] (N3 p e kB b0) K:=by
 have amt:=wZ (fun a=>!zl p e a) L 0;refine Xd adX (fun _ _ _=>.gd false .junk) (by simp) ?_;simp[aiC];refine YA p e L hl kB b0 Y _ ?_
 have:decide (0<=jI (fun a=>!zl p e a) L 0)=L.any fun a=>!zl p e a:=by
  rw[zzbl,decide_eq_true_eq];exact amt
 simp[aiD,this];simpa using hK
def mA(p:Pl)(e:En):Bool:=Kl 1 (p.rg-1) none (e.al.map fun x=>x.1)&&(!(decide (kindOf p e.it=4)&&decide (e.al≠[]))&&!(e.al.any fun a=>!zl p e a))
def AU(p:Pl)(e:En):Nat->FuncId->List AV->AV:=fun _ f _=>if f=313 then .bool (Kl 1 (p.rg-1) none (e.al.map fun x=>x.1))else .gd false .junk
def amu(p:Pl)(e:En)(hl:e.al.length<=8796093022208)(K0:1<=p.rg/\p.rg<=8)(kB:List (List Int×AV))(bx:List (List AV))(Y:YT)(K:AV->AM->Prop)(hK:∀b,mA p e=b->K (.bool b) (bV p (mI p.aM) kB bx)):
  an Tryz.prog az Y 270 [.ptr 3 0,.agg (Qd e)] (bV p (mI p.aM) kB bx) K:=by
 have F8:=Q2 e.al 1 (p.rg-1) hl;refine Kr (Xd adG (AU p e) (by simp) ?_);obtain⟨r,hr,Q6⟩:=CS p e.it;have qc:IntKind.i64.wrap (p.rg-1)=p.rg-1:=by rw[Qi]<;>omega
 cases h1:Kl 1 (p.rg-1) none (e.al.map fun x=>x.1)with
 |false=>
  rw[h1]at F8;simp[zY,zZ,bV,Qc,Qd,qc,AU,h1];exact⟨F8,o9 _ rfl (Idle.bool _) (hK _ (by simp[mA,h1]))⟩
 |true=>
  rw[h1]at F8;have tl:∀(E:List (Nat×AV)),True:=fun _=>trivial;have hgo:kindOf p e.it=4->e.al≠[]->mA p e=false:=fun h h'=>by simp[mA,h,h']
  have BT:¬(kindOf p e.it=4/\e.al≠[])->mA p e=!(e.al.any fun a=>!zl p e a):=fun h=>by
   have:(decide (kindOf p e.it=4)&&decide (e.al≠[]))=false:=by
    rw[Bool.eq_false_iff];intro h';simp at h';exact h h'
   rw[mA,h1,this];rfl
  obtain⟨n,y,hf,rfl⟩|⟨hf,rfl⟩:=Q6
  ·have hkd:kindOf p e.it=y.ki:=by simp[kindOf,hf]
   by_cases c1:y.ki=4
   ·by_cases c2:e.al=[]
    ·have P0:=BT (by simp[c2]);have c2l:¬0<e.al.length:=by simp[c2]
     simp[zY,zZ,bV,Qc,Qd,qc,AU,hr,Qm,c1,c2];rw[c2]at F8;refine⟨F8,?_⟩;have:=K1 p e [] (by simp) kB bx Y;simp only[N3,bV,Qc,Qd,c2]at this;refine this _ ?_;simp;exact o9 _ rfl (Idle.bool _) (hK _ (by rw[P0,c2];rfl))
    have c2l:0<e.al.length:=zzct.2 c2;simp[zY,zZ,bV,Qc,Qd,qc,AU,h1,hr,Qm,c1,c2l];exact⟨F8,o9 _ rfl (Idle.bool _) (hK _ (hgo (by rw[hkd,c1]) c2))⟩
   have P0:=BT (by rw[hkd];exact fun h=>c1 h.1);simp[zY,zZ,bV,Qc,Qd,qc,AU,h1,hr,Qm,c1];refine⟨F8,?_⟩;have:=K1 p e e.al hl kB bx Y;simp only[N3,bV,Qc,Qd]at this;refine this _ ?_;simp;exact o9 _ rfl (Idle.bool _) (hK _ (by rw[P0]))
  have P0:=BT (by simp[kindOf,hf]);simp[zY,zZ,bV,Qc,Qd,qc,AU,h1,hr];refine⟨F8,?_⟩;have:=K1 p e e.al hl kB bx Y;simp only[N3,bV,Qc,Qd]at this;refine this _ ?_;simp;exact o9 _ rfl (Idle.bool _) (hK _ (by rw[P0]))
open Go Go.Abs
def w8(x a:Sp):Bool:=x.1==a.1&&x.2==a.2
def YB(x:Sp)(L:List Sp):L.any (w8 x)=decide (x∈L):=by
 rw[zzbl];simp only[zzbz,decide_eq_true_eq,w8,zzak,beq_iff_eq];constructor
 ·rintro⟨a,h,h1,h2⟩;have:x=a:=Prod.ext h1 h2;rw[this];exact h
 exact fun h=>⟨x,h,rfl,rfl⟩
def YC(x:Sp)(L:List Sp)(hl:L.length<=8796093022208):Pure Tryz.prog az 346 [.sl .ro (L.map Qe),.agg (Qe x)] (I (jI (w8 x) L 0)):=by
 obtain⟨T,hT⟩:∃T,jI (w8 x) L 0=T:=⟨_,rfl⟩;rw[hT];refine Qn ad5 (fun _ _ _=>.junk) (by simp) ?_;simp[aiQ,Qe];refine Qj BR (arV 8 L.length ⟨[[I x.1,I x.2]],[],fun _=>.gone,0⟩ fun i=>jI (w8 x) (L.drop i) i=T) (fun f _=>L.length-(numOf (f 8)).toNat) ?_ ?_
 ·exact⟨0,by simp,by omega,by simpa using hT,rfl⟩
 rintro f m ⟨i,h8,hi,hx,rfl⟩;rcases zzaa i L.length with ai|bB
 ·obtain⟨a,ha⟩:=aR ai;have aa:Qh (L.map Qe) i=Qe a:=Zd ha;have axr:Qh (L.map fun x=>[I x.1,I x.2]) i=Qe a:=aa;have ah:(i:Int)<(L.length:Int):=by omega
  have hw:=bJ i (by omega);rw[Xz ha,jI]at hx;cases hb:w8 x a with
  |false=>
   rw[hb]at hx;simp at hx;simp only[w8]at hb;simp[h8,ah,aa,BR,Ns,hw,Qe,hb];refine⟨aN,⟨i+1,by simp,by omega,hx,rfl⟩,by omega⟩
  |true=>
   rw[hb]at hx;simp at hx;simp only[w8]at hb;subst hx;simp[h8,ah,aa,BR,Ns,Qe,hb]
 have bI:¬(i:Int)<(L.length:Int):=by omega
 rw[zzan bB,jI]at hx;simp[h8,bI,BR,Ns,hx]
def F9(x:Sp)(L:List Sp)(hl:L.length<=8796093022208):Pure Tryz.prog az 317 [.sl .ro (L.map Qe),.agg (Qe x)] (.bool (decide (x∈L))):=by
 have k:=YC x L hl;have amt:=wZ (w8 x) L 0;refine Qn adY (fun _ _ _=>I (jI (w8 x) L 0)) (by simp) ?_
 have:decide (0<=jI (w8 x) L 0)=decide (x∈L):=by
  rw[<- YB,zzbl,decide_eq_true_eq];exact amt
 simp[aiE,aiF,this,Qe];simpa[Qe]using k
def amv(p:Pl)(id:Int):∃r,Xi [id] (mK p.bks) 0=r/\((∃n x,F7 id p.bks=some x/\r=some (n,.agg (Xf x)))\/(F7 id p.bks=none/\r=none)):=by
 obtain⟨g1,g2⟩:=arU id p.bks 0;cases hf:F7 id p.bks with
 |none=>exact⟨_,rfl,.inr ⟨rfl,g1 hf⟩⟩
 |some x=>
  obtain⟨n,g⟩:=g2 x hf;exact⟨_,rfl,.inl ⟨n,x,rfl,g⟩⟩
def Q7(p:Pl)(e:En):Bool:=if e.bo=0 then true else match F7 e.bo p.bks with
 |none=>false
 |some x=>if x.re=0 then decide (x.it=e.it)else decide ((x.re,x.it)∈e.al)
def Q8(p:Pl)(e:En)(hl:e.al.length<=8796093022208)(kI:List (List Int×AV))(bx:List (List AV))(Y:YT)(K:AV->AM->Prop)(hK:∀b,Q7 p e=b->K (.bool b) (bV p kI (mK p.bks) bx)):
  an Tryz.prog az Y 271 [.ptr 3 0,.agg (Qd e)] (bV p kI (mK p.bks) bx) K:=by
 obtain⟨r,hr,Q6⟩:=amv p e.bo;by_cases h0:e.bo=0
 ·refine Kr (Xd BO (fun _ _ _=>.junk) (by simp) ?_);simp[Nk,Nl,bV,Qc,Qd,h0];exact o9 _ rfl (Idle.bool _) (hK _ (by simp[Q7,h0]))
 obtain⟨n,x,hf,rfl⟩|⟨hf,rfl⟩:=Q6
 ·have k:=F9 (x.re,x.it) e.al hl;refine Kr (Xd BO (fun _ _ _=>.bool (decide ((x.re,x.it)∈e.al))) (by simp) ?_);simp[Nk,Nl,bV,Qc,Qd,h0];refine Za ?_;by_cases c1:x.re=0
  ·simp[hr,Xf,c1];exact o9 _ rfl (Idle.bool _) (hK _ (by simp only[Q7,h0,hf,c1];rw[zzbl];simp))
  simp[hr,Xf,c1];refine⟨by simpa[Qe]using k,o9 _ rfl (Idle.bool _) (hK _ (by simp[Q7,h0,hf,c1]))⟩
 refine Kr (Xd BO (fun _ _ _=>.junk) (by simp) ?_);simp[Nk,Nl,bV,Qc,Qd,h0];refine Za ?_;simp[hr];exact o9 _ rfl (Idle.bool _) (hK _ (by simp[Q7,h0,hf]))
def zm(p:Pl)(seen:List Int)(e:En):Bool:=wi e.id 1 1000000&&(!decide (e.id∈seen)&&(jy p e&&(mA p e&&Q7 p e)))
def Ga(p:Pl):List Int->List En->Bool
 |_,[]=>true
 |seen,e::r=>zm p seen e&&Ga p (seen++[e.id]) r
def w9(p:Pl):Bool:=decide (p.ens.length<=4000)&&Ga p [] p.ens
def mS(l:List Int):List (List Int×AV):=l.map fun n=>([n],.bool true)
def arW(k:Int):∀(l:List Int)(i:Nat),(k∈l->∃n,Xi [k] (mS l) i=some (n,.bool true))/\(¬k∈l->Xi [k] (mS l) i=none)
 |[],i=>⟨fun h=>(by cases h),fun _=>rfl⟩
 |x::r,i=>by
  have ih:=arW k r (i+1);simp only[mS,zzaw,Xi]at ih |-
  by_cases h:x=k
  ·subst h;simp
  have h':¬k=x:=fun e=>h e.symm;rw[if_neg (by intro e;cases e;exact h rfl)];simp only[zzau,h',false_or];exact ih
def N4:Nat->FuncId->List AV->AV:=fun _ f l=>if f=265 then(match l with|[.int _ n,.int _ lo,.int _ up]=>.bool (wi n lo up)|_=>.junk)else .gd false .junk
def amw(p:Pl)(f:Nat->AV)(m:AM):Prop:=∃(i:Nat)(bx:List (List AV)),f 20=I i/\i<=p.ens.length/\Ga p ((p.ens.take i).map fun e=>e.id) (p.ens.drop i)=Ga p [] p.ens/\f 3=.mp 4/\m=bV p (mI p.aM) (mK p.bks) ([.aK 0 (mS ((p.ens.take i).map fun e=>e.id))]::bx)
def Qcs{p:Pl}{i:Nat}{e:En}(h:p.ens[i]?=some e):Qh (p.ens.map Qd) i=Qd e:=Qs (by simp[h])
def Q9(p:Pl)(hl:p.ens.length<=1000000000)(ey:∀e∈p.ens,e.al.length<=8796093022208)(X9:wX p.aM=true)(K0:1<=p.rg/\p.rg<=8)(dm:1<=p.ln/\p.ln<=100000000)(Y:YT)(K:AV->AM->Prop)(hK:∀b,w9 p=b->K (.bool b) (bV p (mI p.aM) (mK p.bks) [])):
  an Tryz.prog az Y 195 [.ptr 3 0] (bV p (mI p.aM) (mK p.bks) []) K:=by
 refine Kr (Xd acP N4 (by simp) ?_);by_cases h0:p.ens.length<=4000
 ·have yV:¬(4000:Int)<(p.ens.length:Int):=by omega
  simp[M4,bV,Qc,yV];refine Qj uQ (amw p) (fun f _=>p.ens.length-(numOf (f 20)).toNat) ?_ ?_
  ·exact⟨0,[],by simp,by omega,by simp,by simp,by simp[bV,Qc,mS]⟩
  rintro f m ⟨i,bx,h20,hi,ha,h3,rfl⟩;rcases zzaa i p.ens.length with ai|bB
  ·obtain⟨e,he⟩:=aR ai;have aa:=Qcs he;have ah:(i:Int)<(p.ens.length:Int):=by omega
   have hw:=bJ i (by omega);have bz:(p.ens.take (i+1)).map (fun e=>e.id)=(p.ens.take i).map (fun e=>e.id)++[e.id]:=by simp[zzar,he]
   rw[Xz he,Ga,<- bz]at ha;obtain⟨S,hS⟩:∃S,(p.ens.take i).map (fun e=>e.id)=S:=⟨_,rfl⟩;rw[hS]at ha bz |-
   have h1:=Yx e.id 1 1000000;have hae:=ey e (zzac he);obtain⟨s1,s2⟩:=arW e.id S 0;have bad:zm p S e=false->w9 p=false:=fun h=>by rw[h]at ha;simp[w9,<- ha]
   cases e1:wi e.id 1 1000000 with
   |false=>
    rw[e1]at h1;simp[h20,ah,aa,Qd,bV,Qc,N4,e1,uQ,rK];exact⟨h1,o9 _ rfl (Idle.bool _) (hK _ (bad (by simp[zm,e1])))⟩
   |true=>
    rw[e1]at h1;by_cases e2:e.id∈S
    ·obtain⟨n,s1⟩:=s1 e2;simp[h20,ah,aa,Qd,bV,Qc,N4,e1,s1,uQ,rK];exact⟨h1,o9 _ rfl (Idle.bool _) (hK _ (bad (by simp[zm,e1,e2])))⟩
    have s2:=s2 e2;simp[h20,ah,aa,Qd,bV,Qc,N4,e1,s2,uQ];refine⟨h1,ams p e (mK p.bks) ([.aK 0 (mS S)]::(bx++[Qd e])) X9 dm Y _ fun b hb=>?_⟩;cases b with
    |false=>
     simp[rK];exact o9 _ rfl (Idle.bool _) (hK _ (bad (by simp[zm,e1,e2,hb])))
    |true=>
     simp[bV,Qc,Qd];refine amu p e hae K0 (mK p.bks) ([.aK 0 (mS S)]::(bx++[Qd e])) Y _ fun b lK=>?_;cases b with
     |false=>
      simp[rK];exact o9 _ rfl (Idle.bool _) (hK _ (bad (by simp[zm,e1,e2,hb,lK])))
     |true=>
      simp[bV,Qc,Qd];refine Q8 p e hae (mI p.aM) ([.aK 0 (mS S)]::(bx++[Qd e])) Y _ fun b hb3=>?_;cases b with
      |false=>
       simp[rK];exact o9 _ rfl (Idle.bool _) (hK _ (bad (by simp[zm,e1,e2,hb,lK,hb3])))
      |true=>
       have bT:zm p S e=true:=by simp[zm,e1,e2,hb,lK,hb3]
       rw[bT,zzdw]at ha;simp[bV,Qc,Qd,s2,hw];refine⟨aN,⟨i+1,bx++[Qd e],by simp,by omega,ha,by simp,?_⟩,by omega⟩
       ·rw[bz];simp[bV,Qc,Qd,mS]
  have bI:¬(i:Int)<(p.ens.length:Int):=by omega
  rw[zzan bB]at ha;have ha:Ga p [] p.ens=true:=by rw[<- ha];rfl
  simp[h20,bI,uQ,rK,bV,Qc];exact o9 _ rfl (Idle.bool _) (hK _ (by simp[w9,h0,ha]))
 have yV:(4000:Int)<(p.ens.length:Int):=by omega
 simp[M4,rK,bV,Qc,yV];exact o9 [] (by simp) (Idle.bool _) (hK _ (by simp[w9,h0]))
open Go Go.Abs
def sy(p:Pl):Bool:=Ji p&&(S2 p&&(jx p&&(w9 p&&Qda p)))
def YD(p:Pl):Nat->FuncId->List AV->AV:=fun _ f _=>if f=192 then .bool (Ji p)else if f=196 then .bool (Qda p)else .gd false .junk
def PlS(p:Pl):Prop:=p.sh.length<=1000000000/\p.aM.length<=1000000000/\p.ens.length<=1000000000/\p.bks.length<=8796093022208/\p.cls.length<=1000000000/\∀e∈p.ens,e.al.length<=8796093022208
def Wp(p:Pl)(h:PlS p):Pure Tryz.prog az 120 [.agg (Qc p)] (.bool (sy p)):=by
 obtain⟨l1,l2,l3,l4,l5,l6⟩:=h;have k44:=aeT p l1;have k48:=Q3 p l5;refine Qn ab2 (YD p) (by simp) ?_;cases e1:Ji p with
 |false=>
  rw[e1]at k44;simp[Tw,zL,Qc,YD,sy,e1];simpa[Qc]using k44
 |true=>
  rw[e1]at k44
  have hs:(1<=p.rg/\p.rg<=8)/\(1<=p.ln/\p.ln<=100000000):=by
   simp[Ji,wi]at e1;omega
  simp[Tw,Qc,YD,sy,e1];refine⟨by simpa[Qc]using k44,?_⟩;refine aeZ p l2 Y0 _ (fun e2=>?_) (fun e2 kI=>?_)
  ·simp[bV,Qc,e2];refine ae0 p l4 hs.1 Y0 _ (fun e3=>?_) (fun e3 kB=>?_)
   ·simp[bV,Qc,e3]
    have X9:wX p.aM=true:=by
     simp[S2]at e2;exact e2.2.2.1
    refine Q9 p l3 l6 X9 hs.1 hs.2 Y0 _ fun b e4=>?_;cases b with
    |false=>simp[zL,bV,Qc,e4]
    |true=>
     simp[zL,bV,Qc,e4];simpa[Qc]using k48
   simp[zL,bV,Qc,e3]
  simp[zL,bV,Qc,e2]
end Go.Proofs.YtnopaopphmjnmaaGreatDoor
