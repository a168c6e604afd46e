import Derived.Test.YtnopaopphmjnmaaGreatDoorMESpG
set_option linter.all false
set_option maxRecDepth 100000
set_option maxHeartbeats 64000000
namespace Go.Proofs.YtnopaopphmjnmaaGreatDoor
open Go Go.Abs
def Ue(n lo up:Int):Pure Tryz.prog az 265 [I n,I lo,I up] (.bool (wi n lo up)):=by
 refine Qn adZ (fun _ _ _=>.junk) (by simp) ?_;by_cases h1:lo<=n<;>by_cases h2:n<=up<;>simp[aiF,aiG,wi,h1,h2]
def ajW(e:It):Pure Tryz.prog az 56 [.agg (Qm e)] (I e.id):=by
 refine Qn TH (fun _ _ _=>.junk) (by simp) ?_;simp[ak2,Qm,ak3]
def xG(e:Bk):Pure Tryz.prog az 268 [.agg (Xh e)] (I e.id):=by
 refine Qn ad2 (fun _ _ _=>.junk) (by simp) ?_;simp[aiH,Xh,aiI]
def xH(e:Sp):Pure Tryz.prog az 314 [.agg (Qe e)] (I e.1):=by
 refine Qn aej (fun _ _ _=>.junk) (by simp) ?_;simp[aiX,Qe,aiY]
def Tm(k:Int):Option Int->Bool
 |some q=>decide (k<=q)
 |none=>false
def Kt(lo up:Int):Option Int->List Int->Bool
 |_,[]=>true
 |pr,k::r=>if k<lo\/up<k\/Tm k pr=true then false else Kt lo up (some k) r
def IP(ks:List Int):Nat->Option Int
 |0=>none
 |i+1=>ks[i]?
def Qed{ks:List Int}{i:Nat}{k:Int}(h:ks[i]?=some k):IP ks (i+1)=some k:=h
def keyOf:List AV->Int
 |[.agg (.int _ n::_)]=>n
 |_=>0
def iG:Nat->FuncId->List AV->AV:=fun _ _ l=>I (keyOf l)
def rC{lo up:Int}{ks:List Int}{i:Nat}{k:Int}(h:ks[i]?=some k):Kt lo up (IP ks i) (ks.drop i)=if k<lo\/up<k\/Tm k (IP ks i)=true then false else Kt lo up (IP ks (i+1)) (ks.drop (i+1)):=by
 obtain⟨hi,hk⟩:=zza.1 h;rw[zzaf hi,hk,Kt,Qed h]
def Oz(s n:Nat)(R:Nat->Prop)(f:Nat->AV)(m:AM):Prop:=∃(i:Nat)(bx:List (List AV)),f s=I i/\i<=n/\R i/\m=⟨bx,[],fun _=>.gone,0⟩
def Rx(L:List It)(lo up:Int)(hl:L.length<=8796093022208):Pure Tryz.prog az 266 [.sl .ro (L.map Qm),I lo,I up,.fn 56 [] []] (.bool (Kt lo up none (L.map fun x=>x.id))):=by
 obtain⟨T,hT⟩:∃T,Kt lo up none (L.map fun x=>x.id)=T:=⟨_,rfl⟩;rw[hT];refine Qn ad0 iG (by simp) ?_;simp[Vc];refine Qj nk (Oz 14 L.length fun i=>Kt lo up (IP (L.map fun x=>x.id) i) ((L.map fun x=>x.id).drop i)=T) (fun f _=>L.length-(numOf (f 14)).toNat) ?_ ?_
 ·exact⟨0,_,by simp,by omega,by simpa[IP]using hT,rfl⟩
 rintro f m ⟨i,bx,ue,hi,ha,rfl⟩;rcases zzaa i L.length with ai|bu
 ·obtain⟨x,hx⟩:=aR ai;have ah:Qh (L.map Qm) i=Qm x:=Qs (by simp[hx]);have aa:(i:Int)<(L.length:Int):=by omega
  have hw:=bK i (by omega);have hk:=ajW x;have YS:(L.map fun x=>x.id)[i]?=some x.id:=by simp[hx]
  rw[rC YS]at ha;by_cases c1:x.id<lo
  ·rw[if_pos (.inl c1)]at ha;subst ha;simp[ue,ai,aa,ah,Qm,iG,keyOf,c1,nk,vG];simpa[Qm]using hk
  by_cases c2:up<x.id
  ·rw[if_pos (.inr (.inl c2))]at ha;subst ha;simp[ue,ai,aa,ah,Qm,iG,keyOf,c1,c2,nk,vG];simpa[Qm]using hk
  cases i with
  |zero=>
   rw[if_neg (by simp[c1,c2,IP,Tm])]at ha;have eX:IntKind.i64.wrap 1=1:=by decide
   simp[ue,ai,aa,ah,Qm,iG,keyOf,c1,c2,nk,vG,hw,eX];refine⟨by simpa[Qm]using hk,aO,⟨1,_,by simp,by omega,ha,rfl⟩,by omega⟩
  |succ j=>
   have eR:j<L.length:=by omega
   have sN:(j:Int)<(L.length:Int):=by omega
   obtain⟨y,hy⟩:=aR eR;have sO:Qh (L.map Qm) j=Qm y:=Qs (by simp[hy]);have hky:=ajW y;have sP:IP (L.map fun x=>x.id) (j+1)=some y.id:=Qed (by simp[hy]);have IQ:IntKind.i64.wrap (((j+1:Nat):Int)-1)=(j:Int):=by rw[Qk]<;>omega
   have Gn:IntKind.i64.wrap ((j:Int)+1-1)=(j:Int):=by rw[Qk]<;>omega
   have sM:IntKind.i64.wrap (j:Int)=(j:Int):=by rw[Qk]<;>omega
   have dU:(0:Int)<(j:Int)+1:=by omega
   have hj0:(0:Int)<=(j:Int):=by omega
   have Gp:(0:Int)<=(j:Int)+1:=by omega
   have Ow:¬(j:Int)<0:=by omega
   have Gq:(j:Int)+1<(L.length:Int):=by omega
   have dG:IntKind.i64.wrap ((j:Int)+1+1)=((j+1+1:Nat):Int):=by rw[Qk]<;>omega
   by_cases c3:x.id<=y.id
   ·rw[if_pos (.inr (.inr (by rw[sP];simp[Tm,c3])))]at ha;subst ha;simp[ue,ai,aa,Gq,dU,hj0,Gp,Ow,IQ,Gn,sM,eR,sN,ah,sO,Qm,iG,keyOf,c1,c2,c3,nk,vG];exact⟨by simpa[Qm]using hk,by simpa[Qm]using hky⟩
   rw[if_neg (by rw[sP];simp[c1,c2,c3,Tm])]at ha;simp[ue,ai,aa,Gq,dU,hj0,Gp,Ow,IQ,Gn,sM,eR,sN,ah,sO,Qm,iG,keyOf,c1,c2,c3,nk,vG,dG];refine⟨by simpa[Qm]using hk,by simpa[Qm]using hky,aO,⟨j+1+1,_,by simp,by omega,ha,rfl⟩,by omega⟩
 obtain rfl:i=L.length:=by omega
 rw[zzal (by simp)]at ha;have ha:true=T:=by rw[<- ha];simp[Kt]
 subst ha;simp[ue,nk,vG]
def Ry(L:List Bk)(lo up:Int)(hl:L.length<=8796093022208):Pure Tryz.prog az 267 [.sl .ro (L.map Xh),I lo,I up,.fn 268 [] []] (.bool (Kt lo up none (L.map fun x=>x.id))):=by
 obtain⟨T,hT⟩:∃T,Kt lo up none (L.map fun x=>x.id)=T:=⟨_,rfl⟩;rw[hT];refine Qn ad1 iG (by simp) ?_;simp[VA];refine Qj nq (Oz 14 L.length fun i=>Kt lo up (IP (L.map fun x=>x.id) i) ((L.map fun x=>x.id).drop i)=T) (fun f _=>L.length-(numOf (f 14)).toNat) ?_ ?_
 ·exact⟨0,_,by simp,by omega,by simpa[IP]using hT,rfl⟩
 rintro f m ⟨i,bx,ue,hi,ha,rfl⟩;rcases zzaa i L.length with ai|bu
 ·obtain⟨x,hx⟩:=aR ai;have ah:Qh (L.map Xh) i=Xh x:=Qs (by simp[hx]);have aa:(i:Int)<(L.length:Int):=by omega
  have hw:=bK i (by omega);have hk:=xG x;have YS:(L.map fun x=>x.id)[i]?=some x.id:=by simp[hx]
  rw[rC YS]at ha;by_cases c1:x.id<lo
  ·rw[if_pos (.inl c1)]at ha;subst ha;simp[ue,ai,aa,ah,Xh,iG,keyOf,c1,nq,vH];simpa[Xh]using hk
  by_cases c2:up<x.id
  ·rw[if_pos (.inr (.inl c2))]at ha;subst ha;simp[ue,ai,aa,ah,Xh,iG,keyOf,c1,c2,nq,vH];simpa[Xh]using hk
  cases i with
  |zero=>
   rw[if_neg (by simp[c1,c2,IP,Tm])]at ha;have eX:IntKind.i64.wrap 1=1:=by decide
   simp[ue,ai,aa,ah,Xh,iG,keyOf,c1,c2,nq,vH,hw,eX];refine⟨by simpa[Xh]using hk,aO,⟨1,_,by simp,by omega,ha,rfl⟩,by omega⟩
  |succ j=>
   have eR:j<L.length:=by omega
   have sN:(j:Int)<(L.length:Int):=by omega
   obtain⟨y,hy⟩:=aR eR;have sO:Qh (L.map Xh) j=Xh y:=Qs (by simp[hy]);have hky:=xG y;have sP:IP (L.map fun x=>x.id) (j+1)=some y.id:=Qed (by simp[hy]);have IQ:IntKind.i64.wrap (((j+1:Nat):Int)-1)=(j:Int):=by rw[Qk]<;>omega
   have Gn:IntKind.i64.wrap ((j:Int)+1-1)=(j:Int):=by rw[Qk]<;>omega
   have sM:IntKind.i64.wrap (j:Int)=(j:Int):=by rw[Qk]<;>omega
   have dU:(0:Int)<(j:Int)+1:=by omega
   have hj0:(0:Int)<=(j:Int):=by omega
   have Gp:(0:Int)<=(j:Int)+1:=by omega
   have Ow:¬(j:Int)<0:=by omega
   have Gq:(j:Int)+1<(L.length:Int):=by omega
   have dG:IntKind.i64.wrap ((j:Int)+1+1)=((j+1+1:Nat):Int):=by rw[Qk]<;>omega
   by_cases c3:x.id<=y.id
   ·rw[if_pos (.inr (.inr (by rw[sP];simp[Tm,c3])))]at ha;subst ha;simp[ue,ai,aa,Gq,dU,hj0,Gp,Ow,IQ,Gn,sM,eR,sN,ah,sO,Xh,iG,keyOf,c1,c2,c3,nq,vH];exact⟨by simpa[Xh]using hk,by simpa[Xh]using hky⟩
   rw[if_neg (by rw[sP];simp[c1,c2,c3,Tm])]at ha;simp[ue,ai,aa,Gq,dU,hj0,Gp,Ow,IQ,Gn,sM,eR,sN,ah,sO,Xh,iG,keyOf,c1,c2,c3,nq,vH,dG];refine⟨by simpa[Xh]using hk,by simpa[Xh]using hky,aO,⟨j+1+1,_,by simp,by omega,ha,rfl⟩,by omega⟩
 obtain rfl:i=L.length:=by omega
 rw[zzal (by simp)]at ha;have ha:true=T:=by rw[<- ha];simp[Kt]
 subst ha;simp[ue,nq,vH]
def Rz(L:List Sp)(lo up:Int)(hl:L.length<=8796093022208):Pure Tryz.prog az 313 [.sl .ro (L.map Qe),I lo,I up,.fn 314 [] []] (.bool (Kt lo up none (L.map fun x=>x.1))):=by
 obtain⟨T,hT⟩:∃T,Kt lo up none (L.map fun x=>x.1)=T:=⟨_,rfl⟩;rw[hT];refine Qn aei iG (by simp) ?_;simp[VI];refine Qj nr (Oz 14 L.length fun i=>Kt lo up (IP (L.map fun x=>x.1) i) ((L.map fun x=>x.1).drop i)=T) (fun f _=>L.length-(numOf (f 14)).toNat) ?_ ?_
 ·exact⟨0,_,by simp,by omega,by simpa[IP]using hT,rfl⟩
 rintro f m ⟨i,bx,ue,hi,ha,rfl⟩;rcases zzaa i L.length with ai|bu
 ·obtain⟨x,hx⟩:=aR ai;have ah:Qh (L.map Qe) i=Qe x:=Qs (by simp[hx]);have aa:(i:Int)<(L.length:Int):=by omega
  have hw:=bK i (by omega);have hk:=xH x;have YS:(L.map fun x=>x.1)[i]?=some x.1:=by simp[hx]
  rw[rC YS]at ha;by_cases c1:x.1<lo
  ·rw[if_pos (.inl c1)]at ha;subst ha;simp[ue,ai,aa,ah,Qe,iG,keyOf,c1,nr,vJ];simpa[Qe]using hk
  by_cases c2:up<x.1
  ·rw[if_pos (.inr (.inl c2))]at ha;subst ha;simp[ue,ai,aa,ah,Qe,iG,keyOf,c1,c2,nr,vJ];simpa[Qe]using hk
  cases i with
  |zero=>
   rw[if_neg (by simp[c1,c2,IP,Tm])]at ha;have eX:IntKind.i64.wrap 1=1:=by decide
   simp[ue,ai,aa,ah,Qe,iG,keyOf,c1,c2,nr,vJ,hw,eX];refine⟨by simpa[Qe]using hk,aO,⟨1,_,by simp,by omega,ha,rfl⟩,by omega⟩
  |succ j=>
   have eR:j<L.length:=by omega
   have sN:(j:Int)<(L.length:Int):=by omega
   obtain⟨y,hy⟩:=aR eR;have sO:Qh (L.map Qe) j=Qe y:=Qs (by simp[hy]);have hky:=xH y;have sP:IP (L.map fun x=>x.1) (j+1)=some y.1:=Qed (by simp[hy]);have IQ:IntKind.i64.wrap (((j+1:Nat):Int)-1)=(j:Int):=by rw[Qk]<;>omega
   have Gn:IntKind.i64.wrap ((j:Int)+1-1)=(j:Int):=by rw[Qk]<;>omega
   have sM:IntKind.i64.wrap (j:Int)=(j:Int):=by rw[Qk]<;>omega
   have dU:(0:Int)<(j:Int)+1:=by omega
   have hj0:(0:Int)<=(j:Int):=by omega
   have Gp:(0:Int)<=(j:Int)+1:=by omega
   have Ow:¬(j:Int)<0:=by omega
   have Gq:(j:Int)+1<(L.length:Int):=by omega
   have dG:IntKind.i64.wrap ((j:Int)+1+1)=((j+1+1:Nat):Int):=by rw[Qk]<;>omega
   by_cases c3:x.1<=y.1
   ·rw[if_pos (.inr (.inr (by rw[sP];simp[Tm,c3])))]at ha;subst ha;simp[ue,ai,aa,Gq,dU,hj0,Gp,Ow,IQ,Gn,sM,eR,sN,ah,sO,Qe,iG,keyOf,c1,c2,c3,nr,vJ];exact⟨by simpa[Qe]using hk,by simpa[Qe]using hky⟩
   rw[if_neg (by rw[sP];simp[c1,c2,c3,Tm])]at ha;simp[ue,ai,aa,Gq,dU,hj0,Gp,Ow,IQ,Gn,sM,eR,sN,ah,sO,Qe,iG,keyOf,c1,c2,c3,nr,vJ,dG];refine⟨by simpa[Qe]using hk,by simpa[Qe]using hky,aO,⟨j+1+1,_,by simp,by omega,ha,rfl⟩,by omega⟩
 obtain rfl:i=L.length:=by omega
 rw[zzal (by simp)]at ha;have ha:true=T:=by rw[<- ha];simp[Kt]
 subst ha;simp[ue,nr,vJ]
def Jq(p:Pl):Bool:=wi p.ch 0 39&&(Vf p.nu p.de&&(Yg p.of p.sh&&(wi p.ep 0 9000000000&&(wi p.rg 1 8&&wi p.ln 1 100000000))))
def xI(p:Pl):Nat->FuncId->List AV->AV:=fun _ f l=>
 if f=183 then .bool (Vf p.nu p.de)else if f=184 then .bool (Yg p.of p.sh)else(match l with|[.int _ n,.int _ lo,.int _ up]=>.bool (wi n lo up)|_=>.junk)
def afg(p:Pl)(gO:p.sh.length<=1000000000):Pure Tryz.prog az 192 [.ep (Qc p++[.junk,.junk]) 0] (.bool (Jq p)):=by
 have h1:=Ue p.ch 0 39;have h2:=Wu p.nu p.de;have h3:=jO p.of p.sh gO;have h4:=Ue p.ep 0 9000000000;have h5:=Ue p.rg 1 8;have h6:=Ue p.ln 1 100000000;refine Qn ada (xI p) (by simp) ?_;cases e1:wi p.ch 0 39 with
 |false=>rw[e1]at h1;simp[vr,vu,Qc,xI,Jq,e1];exact h1
 |true=>
  rw[e1]at h1;cases e2:Vf p.nu p.de with
  |false=>rw[e2]at h2;simp[vr,vu,Qc,xI,Jq,e1,e2];exact⟨h1,h2⟩
  |true=>
   rw[e2]at h2;cases e3:Yg p.of p.sh with
   |false=>rw[e3]at h3;simp[vr,vu,Qc,xI,Jq,e1,e2,e3];exact⟨h1,h2,h3⟩
   |true=>
    rw[e3]at h3;cases e4:wi p.ep 0 9000000000 with
    |false=>rw[e4]at h4;simp[vr,vu,Qc,xI,Jq,e1,e2,e3,e4];exact⟨h1,h2,h3,h4⟩
    |true=>
     rw[e4]at h4;cases e5:wi p.rg 1 8 with
     |false=>rw[e5]at h5;simp[vr,vu,Qc,xI,Jq,e1,e2,e3,e4,e5];exact⟨h1,h2,h3,h4,h5⟩
     |true=>rw[e5]at h5;simp[vr,vu,Qc,xI,Jq,e1,e2,e3,e4,e5];exact⟨h1,h2,h3,h4,h5,h6⟩
def afh:List Cl->Bool
 |[]=>true
 |c::r=>Xl c&&afh r
def Qdv(p:Pl):Bool:=decide (p.cls.length<=400)&&afh p.cls
def Bc:Nat->FuncId->List AV->AV:=fun _ _ l=>match l with
 |[.agg [.int _ a,.int _ b,.int _ c,.int _ d,.int _ e,.int _ f,.int _ g,.int _ h]]=>.bool (Xl ⟨a,b,c,d,e,f,g,h⟩)
 |_=>.junk
def RA(p:Pl)(hc:p.cls.length<=1000000000):Pure Tryz.prog az 196 [.ep (Qc p++[.junk,.junk]) 0] (.bool (Qdv p)):=by
 refine Qn adg Bc (by simp) ?_;by_cases h0:p.cls.length<=400
 ·have zo:¬(400:Int)<(p.cls.length:Int):=by omega
  obtain⟨T,hT⟩:∃T,Qdv p=T:=⟨_,rfl⟩;rw[hT];simp[UO,Qc,h0,zo];refine Qj B8 (Oz 18 p.cls.length fun i=>afh (p.cls.drop i)=T) (fun f _=>p.cls.length-(numOf (f 18)).toNat) ?_ ?_
  ·exact⟨0,_,by simp,by omega,by rw[<- hT];simp[Qdv,h0],rfl⟩
  rintro f m ⟨i,bx,h18,hi,ha,rfl⟩;rcases zzaa i p.cls.length with ai|bu
  ·obtain⟨x,hx⟩:=aR ai;have ah:Qh (p.cls.map Qg) i=Qg x:=Qs (by simp[hx]);have aa:(i:Int)<(p.cls.length:Int):=by omega
   have hw:=bK i (by omega);have hk:=Ky x;rw[Zb hx,afh]at ha;cases hv:Xl x with
   |false=>
    rw[hv]at ha hk;simp at ha;simp[h18,ai,aa,ah,Qg,Bc,hv,B8,EH,ha];simpa[Qg]using hk
   |true=>
    rw[hv]at ha hk;simp at ha;simp[h18,ai,aa,ah,Qg,Bc,hv,B8,EH,hw];refine⟨by simpa[Qg]using hk,aO,⟨i+1,_,by simp,by omega,ha,rfl⟩,by omega⟩
  obtain rfl:i=p.cls.length:=by omega
  rw[zzbo]at ha;have ha:true=T:=ha;subst ha;simp[h18,B8,EH]
 have zo:(400:Int)<(p.cls.length:Int):=by omega
 simp[UO,EH,Qc,Qdv,h0,zo]
open Go Go.Abs
def mI(l:List It):List (List Int×AV):=l.map fun x=>([x.id],.agg (Qm x))
def mK(l:List Bk):List (List Int×AV):=l.map fun x=>([x.id],.agg (Xh x))
def Gr(id:Int):List Bk->Option Bk
 |[]=>none
 |x::r=>if x.id=id then some x else Gr id r
def xJ{k:List Int}:∀{kvs:List (List Int×AV)}{i:Nat},(∀p∈kvs,p.1≠k)->Xk k kvs i=none
 |[],_,_=>rfl
 |(k',a)::r,i,h=>by
  rw[Xk,if_neg (fun e=>h (k',a) (by simp) e.symm)];exact xJ fun p hp=>h p (by simp[hp])
def amU(id:Int):∀(l:List It)(i:Nat),(Xj id l=none->Xk [id] (mI l) i=none)/\∀x,Xj id l=some x->∃n,Xk [id] (mI l) i=some (n,.agg (Qm x))
 |[],i=>⟨fun _=>rfl,fun x h=>by cases h⟩
 |y::r,i=>by
  have ih:=amU id r (i+1);simp only[mI,zzay,Xk,Xj]at ih |-
  by_cases h:y.id=id
  ·rw[if_pos h,if_pos (by rw[h])];exact⟨fun h=>(by cases h),fun x h=>(by cases h;exact⟨i,rfl⟩)⟩
  rw[if_neg h,if_neg (by intro e;cases e;exact h rfl)];exact ih
def asA(id:Int):∀(l:List Bk)(i:Nat),(Gr id l=none->Xk [id] (mK l) i=none)/\∀x,Gr id l=some x->∃n,Xk [id] (mK l) i=some (n,.agg (Xh x))
 |[],i=>⟨fun _=>rfl,fun x h=>by cases h⟩
 |y::r,i=>by
  have ih:=asA id r (i+1);simp only[mK,zzay,Xk,Gr]at ih |-
  by_cases h:y.id=id
  ·rw[if_pos h,if_pos (by rw[h])];exact⟨fun h=>(by cases h),fun x h=>(by cases h;exact⟨i,rfl⟩)⟩
  rw[if_neg h,if_neg (by intro e;cases e;exact h rfl)];exact ih
def lD{lo up:Int}:∀{ks:List Int}{pr:Option Int},Kt lo up pr ks=true->ks.Pairwise (·<·)/\∀k∈ks,lo<=k/\k<=up/\∀q,pr=some q->q<k
 |[],pr,_=>⟨List.Pairwise.nil,fun k hk=>by cases hk⟩
 |k::r,pr,h=>by
  rw[Kt]at h;split at h
  ·cases h
  rename_i hn;simp only[not_or]at hn;obtain⟨h1,h2⟩:=lD h
  have hk:∀q,pr=some q->q<k:=fun q hq=>by
   have:=hn.2.2;subst hq;simp[Tm]at this;omega
  refine⟨zzc.2 ⟨fun a ha=>(h2 a ha).2.2 k rfl,h1⟩,fun a ha=>?_⟩;rcases zzaw.1 ha with rfl|ha
  ·exact⟨by omega,by omega,hk⟩
  obtain⟨g1,g2,g3⟩:=h2 a ha;refine⟨g1,g2,fun q hq=>?_⟩;have:=hk q hq;have:=g3 k rfl;omega
def xK{α:Type}{key:α->Int}{row:α->AV}{l:List α}{i:Nat}{x:α}(h:(l.map key).Pairwise (·<·))(hx:l[i]?=some x):Xk [key x] ((l.take i).map fun x=>([key x],row x)) 0=none:=by
 refine xJ fun p hp=>?_;obtain⟨y,hy,rfl⟩:=zzbc.1 hp;obtain⟨j,hj,qo⟩:=zzfw hy;rw[zzaq]at hj;rw[List.getElem_take]at qo;obtain⟨hi,hx⟩:=zza.1 hx
 have ai:key l[j]<key l[i]:=by
  have:=zzdn.1 h j i (by simp;omega) (by simpa using hi) (by omega);simpa using this
 intro e;rw[<- qo,<- hx]at e;simp only[List.cons.injEq,and_true]at e;omega
def Tn(x:It):Bool:=wi x.ki 1 5&&(wi x.fr 1 100000000&&(wi x.sp 0 200&&wi x.ra 0 3))
def xL:List It->Bool
 |[]=>true
 |x::r=>Tn x&&xL r
def wR(p:Pl):Bool:=match Xj p.fi p.aM with
 |some x=>decide (x.ki=5)
 |none=>false
def Tp(p:Pl):Bool:=decide (p.aM.length<=4000)&&(Kt 1 1000000 none (p.aM.map fun x=>x.id)&&(xL p.aM&&wR p))
def bW(p:Pl)(kI kB:List (List Int×AV))(bx:List (List AV)):AM:=⟨Qc p::[.aJ 0 kI]::[.aJ 0 kB]::(Qc p++[.mp 1,.mp 2])::bx,[],fun _=>.gone,0⟩
def afi(x:It):Idle (.agg (Qm x)):=Idle.agg fun c hc=>by
 simp only[Qm,zzaw,zzef,or_false]at hc;rcases hc with rfl|rfl|rfl|rfl|rfl<;>exact Idle.int _ _
def afj(x:Bk):Idle (.agg (Xh x)):=Idle.agg fun c hc=>by
 simp only[Xh,zzaw,zzef,or_false]at hc;rcases hc with rfl|rfl|rfl|rfl|rfl|rfl|rfl<;>exact Idle.int _ _
def BkK(p:Pl)(K:AV->AM->Prop)(r:AV)(m:AM):Prop:=∃kI kB bx,m=bW p kI kB bx/\(∀e∈kI,Idle e.2)/\(∀e∈kB,Idle e.2)/\Idle r/\K r (bW p kI kB [])
def Be{p:Pl}{K:AV->AM->Prop}{r:AV}{m:AM}(kI kB:List (List Int×AV))(bx:List (List AV))(hm:m=bW p kI kB bx)(h1:∀e∈kI,Idle e.2)(h2:∀e∈kB,Idle e.2)(h3:Idle r)(h4:K r (bW p kI kB [])):BkK p K r m:=⟨kI,kB,bx,hm,h1,h2,h3,h4⟩
def sQ{f:FuncId}{xs:List AV}{p:Pl}{Y:YT}{k0 b0:List (List Int×AV)}{K:AV->AM->Prop}
  (h:an Tryz.prog az Y f xs (bW p k0 b0 []) (BkK p K)):an Tryz.prog az Y f xs (bW p k0 b0 []) K:=by
 refine an.forget (an.mono h ?_);rintro r m' ⟨kI,kB,bx,rfl,h1,h2,h3,h4⟩;refine⟨bW p kI kB [],bx,rfl,rfl,rfl,fun id cells hc=>?_,h3,h4⟩
 match id,hc with
 |0,hc=>exact .inl hc
 |1,hc=>cases hc;exact .inr (.inr ⟨0,kI,rfl,h1⟩)
 |2,hc=>cases hc;exact .inr (.inr ⟨0,kB,rfl,h2⟩)
 |3,hc=>exact .inl hc
 |n+4,hc=>cases hc
def pP(p:Pl):Nat->FuncId->List AV->AV:=fun _ f l=>
 if f=266 then .bool (Kt 1 1000000 none (p.aM.map fun x=>x.id))else(match l with|[.int _ n,.int _ lo,.int _ up]=>.bool (wi n lo up)|_=>.junk)
def Vu(l:List It):∀e∈mI l,Idle e.2:=fun e he=>by
 obtain⟨x,_,rfl⟩:=zzbc.1 he;exact afi x
def Qbf(l:List Bk):∀e∈mK l,Idle e.2:=fun e he=>by
 obtain⟨x,_,rfl⟩:=zzbc.1 he;exact afj x
def afk{l:List It}{i:Nat}{x:It}(h:l[i]?=some x):mI (l.take (i+1))=mI (l.take i)++[([x.id],.agg (Qm x))]:=by
 simp[mI,zzas,h]
def afl{l:List Bk}{i:Nat}{x:Bk}(h:l[i]?=some x):mK (l.take (i+1))=mK (l.take i)++[([x.id],.agg (Xh x))]:=by
 simp[mK,zzas,h]
def Je{P:List Int×AV->Prop}:∀e∈([]:List (List Int×AV)),P e:=fun e h=>by cases h
def ajX(s n:Nat)(p:Pl)(kI kB:Nat->List (List Int×AV))(R:Nat->Prop)(f:Nat->AV)(m:AM):Prop:=∃(i:Nat)(bx:List (List AV)),f s=I i/\i<=n/\R i/\m=bW p (kI i) (kB i) bx
def afm(p:Pl)(hl:p.aM.length<=1000000000)(Y:YT)(K:AV->AM->Prop)(hK1:Tp p=true->K (.bool true) (bW p (mI p.aM) [] []))(rE:Tp p=false->∀kI,K (.bool false) (bW p kI [] [])):
  an Tryz.prog az Y 193 [.ptr 3 0] (bW p [] [] []) K:=by
 have OA:=Rx p.aM 1 1000000 (by omega);refine sQ ?_;refine Xe adb (pP p) (by simp) ?_;by_cases h0:p.aM.length<=4000
 ·have zo:¬(4000:Int)<(p.aM.length:Int):=by omega
  cases ha:Kt 1 1000000 none (p.aM.map fun x=>x.id)with
  |false=>
   rw[ha]at OA;simp[EF,oG,bW,Qc,h0,zo,pP,ha];exact⟨OA,Be _ _ _ rfl Je Je (Idle.bool _) (rE (by simp[Tp,ha]) [])⟩
  |true=>
   rw[ha]at OA;have hp:=(lD ha).1;simp[EF,bW,Qc,h0,zo,pP,ha];refine⟨OA,?_⟩;refine Qj iX (ajX 27 p.aM.length p (fun i=>mI (p.aM.take i)) (fun _=>[]) fun i=>xL (p.aM.drop i)=xL p.aM) (fun f _=>p.aM.length-(numOf (f 27)).toNat) ?_ ?_
   ·exact⟨0,[],by simp,by omega,by simp,by simp[bW,Qc,mI]⟩
   rintro f m ⟨i,bx,h27,hi,eP,rfl⟩;rcases zzaa i p.aM.length with ai|bu
   ·obtain⟨x,hx⟩:=aR ai;have ah:Qh (p.aM.map Qm) i=Qm x:=Qs (by simp[hx]);have aa:(i:Int)<(p.aM.length:Int):=by omega
    have hw:=bK i (by omega);have hkf:Xk [x.id] (mI (p.aM.take i)) 0=none:=xK (key:=fun x=>x.id) (row:=fun x=>.agg (Qm x)) hp hx;have bB:=afk hx;rw[Zb hx,xL]at eP;have h1:=Ue x.ki 1 5;have h2:=Ue x.fr 1 100000000;have h3:=Ue x.sp 0 200;have h4:=Ue x.ra 0 3;have bad:Tn x=false->Tp p=false:=fun h=>by rw[h]at eP;simp[Tp,<- eP]
    cases e1:wi x.ki 1 5 with
    |false=>
     rw[e1]at h1;simp[h27,ai,aa,ah,Qm,bW,Qc,pP,e1,iX,oG];exact⟨h1,Be _ _ _ rfl (Vu _) Je (Idle.bool _) (rE (bad (by simp[Tn,e1])) _)⟩
    |true=>
     rw[e1]at h1;cases e2:wi x.fr 1 100000000 with
     |false=>
      rw[e2]at h2;simp[h27,ai,aa,ah,Qm,bW,Qc,pP,e1,e2,iX,oG];exact⟨h1,h2,Be _ _ _ rfl (Vu _) Je (Idle.bool _) (rE (bad (by simp[Tn,e1,e2])) _)⟩
     |true=>
      rw[e2]at h2;cases e3:wi x.sp 0 200 with
      |false=>
       rw[e3]at h3;simp[h27,ai,aa,ah,Qm,bW,Qc,pP,e1,e2,e3,iX,oG];exact⟨h1,h2,h3,Be _ _ _ rfl (Vu _) Je (Idle.bool _) (rE (bad (by simp[Tn,e1,e2,e3])) _)⟩
      |true=>
       rw[e3]at h3;cases e4:wi x.ra 0 3 with
       |false=>
        rw[e4]at h4;simp[h27,ai,aa,ah,Qm,bW,Qc,pP,e1,e2,e3,e4,iX,oG];exact⟨h1,h2,h3,h4,Be _ _ _ rfl (Vu _) Je (Idle.bool _) (rE (bad (by simp[Tn,e1,e2,e3,e4])) _)⟩
       |true=>
        rw[e4]at h4;have bV:Tn x=true:=by simp[Tn,e1,e2,e3,e4]
        rw[bV,zzdq]at eP;simp[h27,ai,aa,ah,Qm,bW,Qc,pP,e1,e2,e3,e4,iX,hw,hkf];refine⟨h1,h2,h3,h4,aO,⟨i+1,bx++[Qm x],by simp,by omega,eP,?_⟩,by omega⟩
        ·simp only[bB];simp[Qm,bW,Qc]
   have bJ:¬(i:Int)<(p.aM.length:Int):=by omega
   rw[zzal bu]at eP;have mH:p.aM.take i=p.aM:=zzap bu;simp only[mH];have eP:xL p.aM=true:=by rw[<- eP];rfl
   obtain⟨g1,g2⟩:=amU p.fi p.aM 0;cases hf:Xj p.fi p.aM with
   |none=>
    have g:=g1 hf;simp[h27,bJ,iX,oG,bW,Qc,g];exact Be _ _ _ rfl (Vu _) Je (Idle.bool _) (rE (by simp[Tp,wR,hf]) _)
   |some x=>
    obtain⟨n,g⟩:=g2 x hf;simp[h27,bJ,iX,oG,bW,Qc,g,Qm];by_cases h5:x.ki=5
    ·simp only[h5];exact Be _ _ _ rfl (Vu _) Je (Idle.bool _) (hK1 (by simp[Tp,wR,hf,h0,ha,eP,h5]))
    have h5':(x.ki==5)=false:=by simpa using h5
    rw[h5'];exact Be _ _ _ rfl (Vu _) Je (Idle.bool _) (rE (by simp[Tp,wR,hf,h5]) _)
 have zo:(4000:Int)<(p.aM.length:Int):=by omega
 simp[EF,oG,bW,Qc,h0,zo,pP];exact Be _ _ _ rfl Je Je (Idle.bool _) (rE (by simp[Tp,h0]) [])
open Go Go.Abs
def Dh(x:Bk):Bool:=decide (0<=x.fr)&&(decide (x.fr<x.to)&&(decide (x.to<=x.un)&&decide (x.un<=100000000)))
def kindOf(p:Pl)(id:Int):Int:=match Xj id p.aM with
 |some y=>y.ki
 |none=>0
def YU(p:Pl)(x:Bk):Bool:=decide (kindOf p x.it=2)&&(wi x.re 0 (p.rg-1)&&(Dh x&&wi x.pr 0 1000000000))
def RB(p:Pl):List Bk->Bool
 |[]=>true
 |x::r=>YU p x&&RB p r
def jU(p:Pl):Bool:=decide (p.bks.length<=2000)&&(Kt 1 1000000 none (p.bks.map fun x=>x.id)&&RB p p.bks)
def Di(p:Pl)(id:Int):∃r,Xk [id] (mI p.aM) 0=r/\((∃n x,Xj id p.aM=some x/\r=some (n,.agg (Qm x)))\/(Xj id p.aM=none/\r=none)):=by
 obtain⟨g1,g2⟩:=amU id p.aM 0;cases hf:Xj id p.aM with
 |none=>exact⟨_,rfl,.inr ⟨rfl,g1 hf⟩⟩
 |some x=>
  obtain⟨n,g⟩:=g2 x hf;exact⟨_,rfl,.inl ⟨n,x,rfl,g⟩⟩
def RC(p:Pl):Nat->FuncId->List AV->AV:=fun _ f l=>
 if f=267 then .bool (Kt 1 1000000 none (p.bks.map fun x=>x.id))else(match l with|[.int _ n,.int _ lo,.int _ up]=>.bool (wi n lo up)|_=>.junk)
def afn(p:Pl)(hl:p.bks.length<=8796093022208)(OB:1<=p.rg/\p.rg<=8)(Y:YT)(K:AV->AM->Prop)(hK1:jU p=true->K (.bool true) (bW p (mI p.aM) (mK p.bks) []))(rE:jU p=false->∀kB,K (.bool false) (bW p (mI p.aM) kB [])):
  an Tryz.prog az Y 194 [.ptr 3 0] (bW p (mI p.aM) [] []) K:=by
 have OA:=Ry p.bks 1 1000000 hl;refine sQ ?_;refine Xe ade (RC p) (by simp) ?_;by_cases h0:p.bks.length<=2000
 ·have zo:¬(2000:Int)<(p.bks.length:Int):=by omega
  cases ha:Kt 1 1000000 none (p.bks.map fun x=>x.id)with
  |false=>
   rw[ha]at OA;simp[EG,fS,bW,Qc,h0,zo,RC,ha];exact⟨OA,Be _ _ _ rfl (Vu _) Je (Idle.bool _) (rE (by simp[jU,ha]) [])⟩
  |true=>
   rw[ha]at OA;have hp:=(lD ha).1;simp[EG,bW,Qc,h0,zo,RC,ha];refine⟨OA,?_⟩;refine Qj eL (ajX 28 p.bks.length p (fun _=>mI p.aM) (fun i=>mK (p.bks.take i)) fun i=>RB p (p.bks.drop i)=RB p p.bks) (fun f _=>p.bks.length-(numOf (f 28)).toNat) ?_ ?_
   ·exact⟨0,[],by simp,by omega,by simp,by simp[bW,Qc,mK]⟩
   rintro f m ⟨i,bx,h28,hi,eP,rfl⟩;rcases zzaa i p.bks.length with ai|bu
   ·obtain⟨x,hx⟩:=aR ai;have ah:Qh (p.bks.map Xh) i=Xh x:=Qs (by simp[hx]);have aa:(i:Int)<(p.bks.length:Int):=by omega
    have hw:=bK i (by omega);have pG:IntKind.i64.wrap (p.rg-1)=p.rg-1:=by rw[Qk]<;>omega
    have hkf:Xk [x.id] (mK (p.bks.take i)) 0=none:=xK (key:=fun x=>x.id) (row:=fun x=>.agg (Xh x)) hp hx;have bB:=afl hx;rw[Zb hx,RB]at eP;have h1:=Ue x.re 0 (p.rg-1);have h2:=Ue x.pr 0 1000000000;have bad:YU p x=false->jU p=false:=fun h=>by rw[h]at eP;simp[jU,<- eP]
    obtain⟨r,hr,RD⟩:=Di p x.it;by_cases fH:kindOf p x.it=2
    ·obtain⟨n,y,hf,rfl⟩|⟨hf,rfl⟩:=RD
     ·have hy:y.ki=2:=by simpa[kindOf,hf]using fH
      cases e1:wi x.re 0 (p.rg-1)with
      |false=>
       rw[e1]at h1;simp[h28,ai,aa,ah,Xh,bW,Qc,RC,hr,Qm,hy,pG,e1,eL,fS];exact⟨h1,Be _ _ _ rfl (Vu _) (Qbf _) (Idle.bool _) (rE (bad (by simp[YU,e1])) _)⟩
      |true=>
       rw[e1]at h1;cases e2:Dh x with
       |false=>
        have e2':¬(0<=x.fr)\/(0<=x.fr/\¬x.fr<x.to)\/(0<=x.fr/\x.fr<x.to/\¬x.to<=x.un)\/(0<=x.fr/\x.fr<x.to/\x.to<=x.un/\¬x.un<=100000000):=by
         simp[Dh]at e2;omega
        obtain c1|⟨c1,c2⟩|⟨c1,c2,c3⟩|⟨c1,c2,c3,c4⟩:=e2'
        ·simp[h28,ai,aa,ah,Xh,bW,Qc,RC,hr,Qm,hy,pG,e1,c1,eL,fS];exact⟨h1,Be _ _ _ rfl (Vu _) (Qbf _) (Idle.bool _) (rE (bad (by simp[YU,e1,e2])) _)⟩
        ·simp[h28,ai,aa,ah,Xh,bW,Qc,RC,hr,Qm,hy,pG,e1,c1,c2,eL,fS];exact⟨h1,Be _ _ _ rfl (Vu _) (Qbf _) (Idle.bool _) (rE (bad (by simp[YU,e1,e2])) _)⟩
        ·simp[h28,ai,aa,ah,Xh,bW,Qc,RC,hr,Qm,hy,pG,e1,c1,c2,c3,eL,fS];exact⟨h1,Be _ _ _ rfl (Vu _) (Qbf _) (Idle.bool _) (rE (bad (by simp[YU,e1,e2])) _)⟩
        simp[h28,ai,aa,ah,Xh,bW,Qc,RC,hr,Qm,hy,pG,e1,c1,c2,c3,c4,eL,fS];exact⟨h1,Be _ _ _ rfl (Vu _) (Qbf _) (Idle.bool _) (rE (bad (by simp[YU,e1,e2])) _)⟩
       |true=>
        have e2':0<=x.fr/\x.fr<x.to/\x.to<=x.un/\x.un<=100000000:=by
         simp[Dh]at e2;omega
        obtain⟨c1,c2,c3,c4⟩:=e2';cases e3:wi x.pr 0 1000000000 with
        |false=>
         rw[e3]at h2;simp[h28,ai,aa,ah,Xh,bW,Qc,RC,hr,Qm,hy,pG,e1,c1,c2,c3,c4,e3,eL,fS];exact⟨h1,h2,Be _ _ _ rfl (Vu _) (Qbf _) (Idle.bool _) (rE (bad (by simp[YU,e1,e2,e3])) _)⟩
        |true=>
         rw[e3]at h2;have bV:YU p x=true:=by simp[YU,fH,e1,e2,e3]
         rw[bV,zzdq]at eP;simp[h28,ai,aa,ah,Xh,bW,Qc,RC,hr,Qm,hy,pG,e1,c1,c2,c3,c4,e3,eL,fS,hw,hkf];refine⟨h1,h2,aO,⟨i+1,bx++[Xh x],by simp,by omega,eP,?_⟩,by omega⟩
         ·simp only[bB];simp[Xh,bW,Qc]
     simp[kindOf,hf]at fH
    have hb:=bad (by simp[YU,fH]);obtain⟨n,y,hf,rfl⟩|⟨hf,rfl⟩:=RD
    ·have hy:¬y.ki=2:=by simpa[kindOf,hf]using fH
     simp[h28,ai,aa,ah,Xh,bW,Qc,RC,hr,Qm,hy,pG,eL,fS];exact Be _ _ _ rfl (Vu _) (Qbf _) (Idle.bool _) (rE hb _)
    simp[h28,ai,aa,ah,Xh,bW,Qc,RC,hr,Qm,pG,eL,fS];exact Be _ _ _ rfl (Vu _) (Qbf _) (Idle.bool _) (rE hb _)
   have bJ:¬(i:Int)<(p.bks.length:Int):=by omega
   rw[zzal bu]at eP;have mH:p.bks.take i=p.bks:=zzap bu;simp only[mH];have eP:RB p p.bks=true:=by rw[<- eP];rfl
   simp[h28,bJ,eL,fS,bW,Qc];exact Be _ _ _ rfl (Vu _) (Qbf _) (Idle.bool _) (hK1 (by simp[jU,h0,ha,eP]))
 have zo:(2000:Int)<(p.bks.length:Int):=by omega
 simp[EG,fS,bW,Qc,h0,zo,RC];exact Be _ _ _ rfl (Vu _) Je (Idle.bool _) (rE (by simp[jU,h0]) [])
open Go Go.Abs
def RdK(m:AM)(K:AV->AM->Prop)(r:AV)(m':AM):Prop:=∃ex,m'={m with boxes:=m.boxes++ex}/\Idle r/\K r m
def pQ{m:AM}{K:AV->AM->Prop}{r:AV}{m':AM}(ex:List (List AV))(hm:m'={m with boxes:=m.boxes++ex})(hi:Idle r)(hK:K r m):RdK m K r m':=⟨ex,hm,hi,hK⟩
def Wd{f:FuncId}{xs:List AV}{m:AM}{Y:YT}{K:AV->AM->Prop}(h:an Tryz.prog az Y f xs m (RdK m K)):an Tryz.prog az Y f xs m K:=by
 refine an.mono (an.read (K:=fun r=>K r m) (an.mono h fun r m' h=>h)) ?_;rintro r m' ⟨rfl,h⟩;exact h
def pR:∀{l:List It},xL l=true->∀x∈l,Tn x=true
 |y::r,h,x,hx=>by
  rw[xL,zzak]at h;rcases zzaw.1 hx with rfl|hx
  ·exact h.1
  exact pR h.2 x hx
def YV{x:It}(h:Tn x=true):(1<=x.ki/\x.ki<=5)/\(1<=x.fr/\x.fr<=100000000)/\(0<=x.sp/\x.sp<=200)/\(0<=x.ra/\x.ra<=3):=by
 simp only[Tn,wi,zzak,decide_eq_true_eq]at h;exact h
def jV(p:Pl)(e:En):Bool:=match Xj e.it p.aM with
 |none=>false
 |some y=>if y.ki=5 then false else if wi e.fr 1 y.fr=false then false else if y.ki≠4/\e.fr≠y.fr then false else decide (0<=e.ea)&&(decide (e.ea<=e.la)&&decide (e.la<=p.ln-e.fr))
def jW:Nat->FuncId->List AV->AV:=fun _ f l=>match l with|[.int _ n,.int _ lo,.int _ up]=>.bool (wi n lo up)|_=>.junk
def amV(p:Pl)(e:En)(kB:List (List Int×AV))(bx:List (List AV))(YW:xL p.aM=true)(cS:1<=p.ln/\p.ln<=100000000)(Y:YT)(K:AV->AM->Prop)(hK:∀b,jV p e=b->K (.bool b) (bW p (mI p.aM) kB bx)):
  an Tryz.prog az Y 269 [.ptr 3 0,.agg (Qd e)] (bW p (mI p.aM) kB bx) K:=by
 refine Wd (Xe ad3 jW (by simp) ?_);obtain⟨r,hr,RD⟩:=Di p e.it;simp[aiJ,aiK,bW,Qc,Qd];refine Xy ?_;obtain⟨n,y,hf,rfl⟩|⟨hf,rfl⟩:=RD
 ·obtain⟨g1,g2,g3,g4⟩:=YV (pR YW y (xM hf).1);have h1:=Ue e.fr 1 y.fr;by_cases c1:y.ki=5
  ·simp[hr,Qm,c1];exact pQ _ rfl (Idle.bool _) (hK _ (by simp[jV,hf,c1]))
  cases c2:wi e.fr 1 y.fr with
  |false=>
   rw[c2]at h1;simp[hr,Qm,c1,c2,jW];exact⟨h1,pQ _ rfl (Idle.bool _) (hK _ (by simp[jV,hf,c1,c2]))⟩
  |true=>
   rw[c2]at h1;have c2':1<=e.fr/\e.fr<=y.fr:=by simpa[wi]using c2
   have hw:IntKind.i64.wrap (p.ln-e.fr)=p.ln-e.fr:=by rw[Qk]<;>omega
   by_cases c3:y.ki≠4/\e.fr≠y.fr
   ·simp[hr,Qm,c1,c2,jW,c3.1,c3.2];exact⟨h1,pQ _ rfl (Idle.bool _) (hK _ (by simp[jV,hf,c1,c2,c3.1,c3.2]))⟩
   have fin:∀b,(decide (0<=e.ea)&&(decide (e.ea<=e.la)&&decide (e.la<=p.ln-e.fr)))=b->jV p e=b:=fun b hb=>by
    rw[jV,hf];simp only;rw[if_neg c1,if_neg (by simp[c2]),if_neg c3];exact hb
   have c3':y.ki=4\/(¬y.ki=4/\e.fr=y.fr):=by
    by_cases h:y.ki=4
    ·exact .inl h
    exact .inr ⟨h,by by_cases h':e.fr=y.fr;exact h';exact absurd ⟨h,h'⟩ c3⟩
   by_cases d1:0<=e.ea
   ·by_cases d2:e.ea<=e.la
    ·by_cases d3:e.la<=p.ln-e.fr
     ·obtain c|⟨c,c'⟩:=c3'
      ·simp[hr,Qm,c1,c2,jW,c,hw,d1,d2,d3];exact⟨h1,pQ _ rfl (Idle.bool _) (hK _ (fin _ (by simp[d1,d2,d3])))⟩
      rw[<- c']at c2 h1;simp[hr,Qm,c1,c2,jW,c,<- c',hw,d1,d2,d3];exact⟨h1,pQ _ rfl (Idle.bool _) (hK _ (fin _ (by simp[d1,d2,d3])))⟩
     obtain c|⟨c,c'⟩:=c3'
     ·simp[hr,Qm,c1,c2,jW,c,hw,d1,d2,d3];exact⟨h1,pQ _ rfl (Idle.bool _) (hK _ (fin _ (by simp[d1,d2,d3])))⟩
     rw[<- c']at c2 h1;simp[hr,Qm,c1,c2,jW,c,<- c',hw,d1,d2,d3];exact⟨h1,pQ _ rfl (Idle.bool _) (hK _ (fin _ (by simp[d1,d2,d3])))⟩
    obtain c|⟨c,c'⟩:=c3'
    ·simp[hr,Qm,c1,c2,jW,c,d1,d2];exact⟨h1,pQ _ rfl (Idle.bool _) (hK _ (fin _ (by simp[d1,d2])))⟩
    rw[<- c']at c2 h1;simp[hr,Qm,c1,c2,jW,c,<- c',d1,d2];exact⟨h1,pQ _ rfl (Idle.bool _) (hK _ (fin _ (by simp[d1,d2])))⟩
   obtain c|⟨c,c'⟩:=c3'
   ·simp[hr,Qm,c1,c2,jW,c,d1];exact⟨h1,pQ _ rfl (Idle.bool _) (hK _ (fin _ (by simp[d1])))⟩
   rw[<- c']at c2 h1;simp[hr,Qm,c1,c2,jW,c,<- c',d1];exact⟨h1,pQ _ rfl (Idle.bool _) (hK _ (fin _ (by simp[d1])))⟩
 simp[hr];exact pQ _ rfl (Idle.bool _) (hK _ (by simp[jV,hf]))
open Go Go.Abs
def zP(p:Pl)(e:En)(a:Sp):Bool:=match Xj a.2 p.aM with
 |none=>false
 |some y=>decide (y.fr=e.fr)&&(decide (y.ki≠5)&&decide (y.ki≠4))
def OC(p:Pl)(e:En)(kB:List (List Int×AV))(b0:List (List AV)):AM:=bW p (mI p.aM) kB (b0++[[.ptr 3 0],Qd e])
def rdA{p:Pl}{e:En}{kB:List (List Int×AV)}{b0:List (List AV)}{K:AV->AM->Prop}{r:AV}{m':AM}(ex:List (List AV))(hm:m'=bW p (mI p.aM) kB (b0++([.ptr 3 0]::Qd e::ex)))(hi:Idle r)(hK:K r (OC p e kB b0)):RdK (OC p e kB b0) K r m':=
 pQ ex (by rw[hm];simp[OC,bW]) hi hK
def YX(p:Pl)(e:En)(a:Sp)(kB:List (List Int×AV))(b0:List (List AV))(Y:YT)(K:AV->AM->Prop)(hK:K (.bool (!zP p e a)) (OC p e kB b0)):
  an Tryz.prog az Y 315 [.agg (Qe a),.ptr (b0.length+4) 0,.ptr (b0.length+5) 0] (OC p e kB b0) K:=by
 refine Wd (Xe aek (fun _ _ _=>.junk) (by simp) ?_);obtain⟨r,hr,RD⟩:=Di p a.2;simp[aiZ,ai0,OC,bW,Qc,Qd,Qe];refine Xy ?_;obtain⟨n,y,hf,rfl⟩|⟨hf,rfl⟩:=RD
 ·by_cases c1:y.fr=e.fr
  ·by_cases c2:y.ki=5
   ·have:(!zP p e a)=true:=by simp[zP,hf,c1,c2]
    rw[this]at hK;simp[hr,Qm,c1,c2];exact rdA _ rfl (Idle.bool _) hK
   by_cases c3:y.ki=4
   ·have:(!zP p e a)=true:=by simp[zP,hf,c1,c2,c3]
    rw[this]at hK;simp[hr,Qm,c1,c2,c3];exact rdA _ rfl (Idle.bool _) hK
   have:(!zP p e a)=false:=by simp[zP,hf,c1,c2,c3]
   rw[this]at hK;have h':(y.ki==5||y.ki==4)=false:=by simp[c2,c3]
   simp[hr,Qm,c1,c2,c3];rw[h'];exact rdA _ rfl (Idle.bool _) hK
  have:(!zP p e a)=true:=by simp[zP,hf,c1]
  rw[this]at hK;have h':(y.fr !=e.fr||y.ki==5||y.ki==4)=true:=by simp[c1]
  simp[hr,Qm,c1];rw[h'];exact rdA _ rfl (Idle.bool _) hK
 have:(!zP p e a)=true:=by simp[zP,hf]
 rw[this]at hK;simp[hr];exact rdA _ rfl (Idle.bool _) hK
def jX{α:Type}(b:α->Bool):List α->Nat->Int
 |[],_=> -1
 |x::r,i=>if b x=true then(i:Int)else jX b r (i+1)
def xN{α:Type}(b:α->Bool):∀(l:List α)(i:Nat),(0<=jX b l i<->l.any b=true)
 |[],i=>by simp[jX]
 |x::r,i=>by
  rw[jX];cases h:b x with
  |true=>simp[h]
  |false=>simp[h,xN b r (i+1)]
def asC(s n:Nat)(m0:AM)(R:Nat->Prop)(f:Nat->AV)(m:AM):Prop:=∃(i:Nat),f s=I i/\i<=n/\R i/\m=m0
def YY(p:Pl)(e:En)(L:List Sp)(hl:L.length<=8796093022208)(kB:List (List Int×AV))(b0:List (List AV))(Y:YT)(K:AV->AM->Prop)(hK:K (I (jX (fun a=>!zP p e a) L 0)) (OC p e kB b0)):
  an Tryz.prog az Y 345 [.sl .ro (L.map Qe),.fn 315 [] [.ptr (b0.length+4) 0,.ptr (b0.length+5) 0]] (OC p e kB b0) K:=by
 obtain⟨T,hT⟩:∃T,jX (fun a=>!zP p e a) L 0=T:=⟨_,rfl⟩;rw[hT]at hK;refine Xe aes (fun _ _ _=>.gd false .junk) (by simp) ?_;simp[aje];refine Qj vL (asC 8 L.length (OC p e kB b0) fun i=>jX (fun a=>!zP p e a) (L.drop i) i=T) (fun f _=>L.length-(numOf (f 8)).toNat) ?_ ?_
 ·exact⟨0,by simp,by omega,by simpa using hT,rfl⟩
 rintro f m ⟨i,h8,hi,hx,rfl⟩;rcases zzaa i L.length with ai|bu
 ·obtain⟨a,ha⟩:=aR ai;have ah:=Zc ha;have aa:(i:Int)<(L.length:Int):=by omega
  have hw:=bK i (by omega);rw[Zb ha,jX]at hx;simp[h8,ai,aa,ah,vL,EP];refine YX p e a kB b0 Y _ ?_;cases hb:zP p e a with
  |false=>
   rw[hb]at hx;simp at hx;simp[h8,vL,EP,hx];exact hK
  |true=>
   rw[hb]at hx;simp at hx;simp[h8,vL,EP,hw];refine⟨aO,⟨i+1,by simp,by omega,hx,rfl⟩,by omega⟩
 have bJ:¬(i:Int)<(L.length:Int):=by omega
 rw[zzal bu,jX]at hx;simp[h8,bJ,zzbl.2 bu,vL,EP,hx];exact hK
def Lr(p:Pl)(e:En)(L:List Sp)(hl:L.length<=8796093022208)(kB:List (List Int×AV))(b0:List (List AV))(Y:YT)(K:AV->AM->Prop)(hK:K (.bool (L.any fun a=>!zP p e a)) (OC p e kB b0)):
  an Tryz.prog az Y 316 [.sl .ro (L.map Qe),.fn 315 [] [.ptr (b0.length+4) 0,.ptr (b0.length+5) 0]] (OC p e kB b0) K:=by
 have amW:=xN (fun a=>!zP p e a) L 0;refine Xe ael (fun _ _ _=>.gd false .junk) (by simp) ?_;simp[ai1];refine YY p e L hl kB b0 Y _ ?_
 have:decide (0<=jX (fun a=>!zP p e a) L 0)=L.any fun a=>!zP p e a:=by
  rw[zzbt,decide_eq_true_eq];exact amW
 simp[ai2,this];simpa using hK
def mU(p:Pl)(e:En):Bool:=Kt 1 (p.rg-1) none (e.al.map fun x=>x.1)&&(!(decide (kindOf p e.it=4)&&decide (e.al≠[]))&&!(e.al.any fun a=>!zP p e a))
def Bf(p:Pl)(e:En):Nat->FuncId->List AV->AV:=fun _ f _=>if f=313 then .bool (Kt 1 (p.rg-1) none (e.al.map fun x=>x.1))else .gd false .junk
def amX(p:Pl)(e:En)(hl:e.al.length<=8796093022208)(OB:1<=p.rg/\p.rg<=8)(kB:List (List Int×AV))(bx:List (List AV))(Y:YT)(K:AV->AM->Prop)(hK:∀b,mU p e=b->K (.bool b) (bW p (mI p.aM) kB bx)):
  an Tryz.prog az Y 270 [.ptr 3 0,.agg (Qd e)] (bW p (mI p.aM) kB bx) K:=by
 have Gs:=Rz e.al 1 (p.rg-1) hl;refine Wd (Xe ad4 (Bf p e) (by simp) ?_);obtain⟨r,hr,RD⟩:=Di p e.it;have pG:IntKind.i64.wrap (p.rg-1)=p.rg-1:=by rw[Qk]<;>omega
 cases h1:Kt 1 (p.rg-1) none (e.al.map fun x=>x.1)with
 |false=>
  rw[h1]at Gs;simp[As,oH,bW,Qc,Qd,pG,Bf,h1];exact⟨Gs,pQ _ rfl (Idle.bool _) (hK _ (by simp[mU,h1]))⟩
 |true=>
  rw[h1]at Gs;have tl:∀(E:List (Nat×AV)),True:=fun _=>trivial;have hgo:kindOf p e.it=4->e.al≠[]->mU p e=false:=fun h h'=>by simp[mU,h,h']
  have Cq:¬(kindOf p e.it=4/\e.al≠[])->mU p e=!(e.al.any fun a=>!zP p e a):=fun h=>by
   have:(decide (kindOf p e.it=4)&&decide (e.al≠[]))=false:=by
    rw[Bool.eq_false_iff];intro h';simp at h';exact h h'
   rw[mU,h1,this];rfl
  obtain⟨n,y,hf,rfl⟩|⟨hf,rfl⟩:=RD
  ·have hkd:kindOf p e.it=y.ki:=by simp[kindOf,hf]
   by_cases c1:y.ki=4
   ·by_cases c2:e.al=[]
    ·have QX:=Cq (by simp[c2]);have c2l:¬0<e.al.length:=by simp[c2]
     simp[As,oH,bW,Qc,Qd,pG,Bf,h1,hr,Qm,c1,c2];rw[c2]at Gs;refine⟨Gs,?_⟩;have:=Lr p e [] (by simp) kB bx Y;simp only[OC,bW,Qc,Qd,c2]at this;refine this _ ?_;simp[oH];exact pQ _ rfl (Idle.bool _) (hK _ (by rw[QX,c2];rfl))
    have c2l:0<e.al.length:=zzcw.2 c2;simp[As,oH,bW,Qc,Qd,pG,Bf,h1,hr,Qm,c1,c2l];exact⟨Gs,pQ _ rfl (Idle.bool _) (hK _ (hgo (by rw[hkd,c1]) c2))⟩
   have QX:=Cq (by rw[hkd];exact fun h=>c1 h.1);simp[As,oH,bW,Qc,Qd,pG,Bf,h1,hr,Qm,c1];refine⟨Gs,?_⟩;have:=Lr p e e.al hl kB bx Y;simp only[OC,bW,Qc,Qd]at this;refine this _ ?_;simp[oH];exact pQ _ rfl (Idle.bool _) (hK _ (by rw[QX]))
  have QX:=Cq (by simp[kindOf,hf]);simp[As,oH,bW,Qc,Qd,pG,Bf,h1,hr];refine⟨Gs,?_⟩;have:=Lr p e e.al hl kB bx Y;simp only[OC,bW,Qc,Qd]at this;refine this _ ?_;simp[oH];exact pQ _ rfl (Idle.bool _) (hK _ (by rw[QX]))
open Go Go.Abs
def xO(x a:Sp):Bool:=x.1==a.1&&x.2==a.2
def YZ(x:Sp)(L:List Sp):L.any (xO x)=decide (x∈L):=by
 rw[zzbt];simp only[zzbx,decide_eq_true_eq,xO,zzak,beq_iff_eq];constructor
 ·rintro⟨a,h,h1,h2⟩;have:x=a:=Prod.ext h1 h2;rw[this];exact h
 exact fun h=>⟨x,h,rfl,rfl⟩
def Y1(x:Sp)(L:List Sp)(hl:L.length<=8796093022208):Pure Tryz.prog az 346 [.sl .ro (L.map Qe),.agg (Qe x)] (I (jX (xO x) L 0)):=by
 obtain⟨T,hT⟩:∃T,jX (xO x) L 0=T:=⟨_,rfl⟩;rw[hT];refine Qn aet (fun _ _ _=>.junk) (by simp) ?_;simp[ajf,Qe];refine Qj Cn (asC 8 L.length ⟨[[I x.1,I x.2]],[],fun _=>.gone,0⟩ fun i=>jX (xO x) (L.drop i) i=T) (fun f _=>L.length-(numOf (f 8)).toNat) ?_ ?_
 ·exact⟨0,by simp,by omega,by simpa using hT,rfl⟩
 rintro f m ⟨i,h8,hi,hx,rfl⟩;rcases zzaa i L.length with ai|bu
 ·obtain⟨a,ha⟩:=aR ai;have ah:Qh (L.map Qe) i=Qe a:=Zc ha;have Gt:Qh (L.map fun x=>[I x.1,I x.2]) i=Qe a:=ah;have aa:(i:Int)<(L.length:Int):=by omega
  have hw:=bK i (by omega);rw[Zb ha,jX]at hx;cases hb:xO x a with
  |false=>
   rw[hb]at hx;simp at hx;simp only[xO]at hb;simp[h8,ai,aa,ah,Gt,Cn,NX,hw,Qe,hb];refine⟨aO,⟨i+1,by simp,by omega,hx,rfl⟩,by omega⟩
  |true=>
   rw[hb]at hx;simp at hx;simp only[xO]at hb;subst hx;simp[h8,ai,aa,ah,Gt,Cn,NX,Qe,hb]
 have bJ:¬(i:Int)<(L.length:Int):=by omega
 rw[zzal bu,jX]at hx;simp[h8,bJ,zzbl.2 bu,Cn,NX,hx]
def Gu(x:Sp)(L:List Sp)(hl:L.length<=8796093022208):Pure Tryz.prog az 317 [.sl .ro (L.map Qe),.agg (Qe x)] (.bool (decide (x∈L))):=by
 have k:=Y1 x L hl;have amW:=xN (xO x) L 0;refine Qn aem (fun _ _ _=>I (jX (xO x) L 0)) (by simp) ?_
 have:decide (0<=jX (xO x) L 0)=decide (x∈L):=by
  rw[<- YZ,zzbt,decide_eq_true_eq];exact amW
 simp[ai3,ai4,this,Qe];simpa[Qe]using k
def amY(p:Pl)(id:Int):∃r,Xk [id] (mK p.bks) 0=r/\((∃n x,Gr id p.bks=some x/\r=some (n,.agg (Xh x)))\/(Gr id p.bks=none/\r=none)):=by
 obtain⟨g1,g2⟩:=asA id p.bks 0;cases hf:Gr id p.bks with
 |none=>exact⟨_,rfl,.inr ⟨rfl,g1 hf⟩⟩
 |some x=>
  obtain⟨n,g⟩:=g2 x hf;exact⟨_,rfl,.inl ⟨n,x,rfl,g⟩⟩
def RE(p:Pl)(e:En):Bool:=if e.bo=0 then true else match Gr e.bo p.bks with
 |none=>false
 |some x=>if x.re=0 then decide (x.it=e.it)else decide ((x.re,x.it)∈e.al)
def RF(p:Pl)(e:En)(hl:e.al.length<=8796093022208)(kI:List (List Int×AV))(bx:List (List AV))(Y:YT)(K:AV->AM->Prop)(hK:∀b,RE p e=b->K (.bool b) (bW p kI (mK p.bks) bx)):
  an Tryz.prog az Y 271 [.ptr 3 0,.agg (Qd e)] (bW p kI (mK p.bks) bx) K:=by
 obtain⟨r,hr,RD⟩:=amY p e.bo;by_cases h0:e.bo=0
 ·refine Wd (Xe Cj (fun _ _ _=>.junk) (by simp) ?_);simp[NQ,NR,bW,Qc,Qd,h0];exact pQ _ rfl (Idle.bool _) (hK _ (by simp[RE,h0]))
 obtain⟨n,x,hf,rfl⟩|⟨hf,rfl⟩:=RD
 ·have k:=Gu (x.re,x.it) e.al hl;refine Wd (Xe Cj (fun _ _ _=>.bool (decide ((x.re,x.it)∈e.al))) (by simp) ?_);simp[NQ,NR,bW,Qc,Qd,h0];refine Xy ?_;by_cases c1:x.re=0
  ·simp[hr,Xh,c1];exact pQ _ rfl (Idle.bool _) (hK _ (by simp only[RE,h0,hf,c1];rw[zzbt];simp))
  simp[hr,Xh,c1];refine⟨by simpa[Qe]using k,pQ _ rfl (Idle.bool _) (hK _ (by simp[RE,h0,hf,c1]))⟩
 refine Wd (Xe Cj (fun _ _ _=>.junk) (by simp) ?_);simp[NQ,NR,bW,Qc,Qd,h0];refine Xy ?_;simp[hr];exact pQ _ rfl (Idle.bool _) (hK _ (by simp[RE,h0,hf]))
def zQ(p:Pl)(seen:List Int)(e:En):Bool:=wi e.id 1 1000000&&(!decide (e.id∈seen)&&(jV p e&&(mU p e&&RE p e)))
def Gv(p:Pl):List Int->List En->Bool
 |_,[]=>true
 |seen,e::r=>zQ p seen e&&Gv p (seen++[e.id]) r
def xP(p:Pl):Bool:=decide (p.ens.length<=4000)&&Gv p [] p.ens
def mS(l:List Int):List (List Int×AV):=l.map fun n=>([n],.bool true)
def asD(k:Int):∀(l:List Int)(i:Nat),(k∈l->∃n,Xk [k] (mS l) i=some (n,.bool true))/\(¬k∈l->Xk [k] (mS l) i=none)
 |[],i=>⟨fun h=>(by cases h),fun _=>rfl⟩
 |x::r,i=>by
  have ih:=asD k r (i+1);simp only[mS,zzay,Xk]at ih |-
  by_cases h:x=k
  ·subst h;simp
  have h':¬k=x:=fun e=>h e.symm;rw[if_neg (by intro e;cases e;exact h rfl)];simp only[zzaw,h',false_or];exact ih
def xQ:Nat->FuncId->List AV->AV:=fun _ f l=>if f=265 then(match l with|[.int _ n,.int _ lo,.int _ up]=>.bool (wi n lo up)|_=>.junk)else .gd false .junk
def amZ(p:Pl)(f:Nat->AV)(m:AM):Prop:=∃(i:Nat)(bx:List (List AV)),f 20=I i/\i<=p.ens.length/\Gv p ((p.ens.take i).map fun e=>e.id) (p.ens.drop i)=Gv p [] p.ens/\f 3=.mp 4/\m=bW p (mI p.aM) (mK p.bks) ([.aJ 0 (mS ((p.ens.take i).map fun e=>e.id))]::bx)
def Qdn{p:Pl}{i:Nat}{e:En}(h:p.ens[i]?=some e):Qh (p.ens.map Qd) i=Qd e:=Qs (by simp[h])
def RG(p:Pl)(hl:p.ens.length<=1000000000)(eP:∀e∈p.ens,e.al.length<=8796093022208)(YW:xL p.aM=true)(OB:1<=p.rg/\p.rg<=8)(cS:1<=p.ln/\p.ln<=100000000)(Y:YT)(K:AV->AM->Prop)(hK:∀b,xP p=b->K (.bool b) (bW p (mI p.aM) (mK p.bks) [])):
  an Tryz.prog az Y 195 [.ptr 3 0] (bW p (mI p.aM) (mK p.bks) []) K:=by
 refine Wd (Xe adf xQ (by simp) ?_);by_cases h0:p.ens.length<=4000
 ·have zo:¬(4000:Int)<(p.ens.length:Int):=by omega
  simp[NA,bW,Qc,h0,zo];refine Qj qG (amZ p) (fun f _=>p.ens.length-(numOf (f 20)).toNat) ?_ ?_
  ·exact⟨0,[],by simp,by omega,by simp,by simp,by simp[bW,Qc,mS]⟩
  rintro f m ⟨i,bx,h20,hi,ha,h3,rfl⟩;rcases zzaa i p.ens.length with ai|bu
  ·obtain⟨e,he⟩:=aR ai;have ah:=Qdn he;have aa:(i:Int)<(p.ens.length:Int):=by omega
   have hw:=bK i (by omega);have bB:(p.ens.take (i+1)).map (fun e=>e.id)=(p.ens.take i).map (fun e=>e.id)++[e.id]:=by simp[zzas,he]
   rw[Zb he,Gv,<- bB]at ha;obtain⟨S,hS⟩:∃S,(p.ens.take i).map (fun e=>e.id)=S:=⟨_,rfl⟩;rw[hS]at ha bB |-
   have h1:=Ue e.id 1 1000000;have hae:=eP e (zzac he);obtain⟨s1,s2⟩:=asD e.id S 0;have bad:zQ p S e=false->xP p=false:=fun h=>by rw[h]at ha;simp[xP,<- ha]
   cases e1:wi e.id 1 1000000 with
   |false=>
    rw[e1]at h1;simp[h20,h3,ai,aa,ah,Qd,bW,Qc,xQ,e1,qG,sd];exact⟨h1,pQ _ rfl (Idle.bool _) (hK _ (bad (by simp[zQ,e1])))⟩
   |true=>
    rw[e1]at h1;by_cases e2:e.id∈S
    ·obtain⟨n,s1⟩:=s1 e2;simp[h20,h3,ai,aa,ah,Qd,bW,Qc,xQ,e1,s1,qG,sd];exact⟨h1,pQ _ rfl (Idle.bool _) (hK _ (bad (by simp[zQ,e1,e2])))⟩
    have s2:=s2 e2;simp[h20,h3,ai,aa,ah,Qd,bW,Qc,xQ,e1,s2,qG];refine⟨h1,amV p e (mK p.bks) ([.aJ 0 (mS S)]::(bx++[Qd e])) YW cS Y _ fun b hb=>?_⟩;cases b with
    |false=>
     simp[sd];exact pQ _ rfl (Idle.bool _) (hK _ (bad (by simp[zQ,e1,e2,hb])))
    |true=>
     simp[bW,Qc,Qd,xQ];refine amX p e hae OB (mK p.bks) ([.aJ 0 (mS S)]::(bx++[Qd e])) Y _ fun b mP=>?_;cases b with
     |false=>
      simp[sd];exact pQ _ rfl (Idle.bool _) (hK _ (bad (by simp[zQ,e1,e2,hb,mP])))
     |true=>
      simp[bW,Qc,Qd,xQ];refine RF p e hae (mI p.aM) ([.aJ 0 (mS S)]::(bx++[Qd e])) Y _ fun b hb3=>?_;cases b with
      |false=>
       simp[sd];exact pQ _ rfl (Idle.bool _) (hK _ (bad (by simp[zQ,e1,e2,hb,mP,hb3])))
      |true=>
       have bV:zQ p S e=true:=by simp[zQ,e1,e2,hb,mP,hb3]
       rw[bV,zzdq]at ha;simp[h20,h3,bW,Qc,Qd,xQ,s2,hw,qG];refine⟨aO,⟨i+1,bx++[Qd e],by simp,by omega,ha,by simp[h3],?_⟩,by omega⟩
       ·rw[bB];simp[bW,Qc,Qd,mS]
  have bJ:¬(i:Int)<(p.ens.length:Int):=by omega
  rw[zzal bu]at ha;have ha:Gv p [] p.ens=true:=by rw[<- ha];rfl
  simp[h20,bJ,zzbl.2 bu,qG,sd,bW,Qc];exact pQ _ rfl (Idle.bool _) (hK _ (by simp[xP,h0,ha]))
 have zo:(4000:Int)<(p.ens.length:Int):=by omega
 simp[NA,sd,bW,Qc,h0,zo];exact pQ [] (by simp) (Idle.bool _) (hK _ (by simp[xP,h0]))
open Go Go.Abs
def sR(p:Pl):Bool:=Jq p&&(Tp p&&(jU p&&(xP p&&Qdv p)))
def pS(p:Pl):Nat->FuncId->List AV->AV:=fun _ f _=>if f=192 then .bool (Jq p)else if f=196 then .bool (Qdv p)else .gd false .junk
def PlS(p:Pl):Prop:=p.sh.length<=1000000000/\p.aM.length<=1000000000/\p.ens.length<=1000000000/\p.bks.length<=8796093022208/\p.cls.length<=1000000000/\∀e∈p.ens,e.al.length<=8796093022208
def Wy(p:Pl)(h:PlS p):Pure Tryz.prog az 120 [.agg (Qc p)] (.bool (sR p)):=by
 obtain⟨l1,l2,l3,l4,l5,l6⟩:=h;have k44:=afg p l1;have k48:=RA p l5;refine Qn acv (pS p) (by simp) ?_;cases e1:Jq p with
 |false=>
  rw[e1]at k44;simp[TT,Af,Qc,pS,sR,e1];simpa[Qc]using k44
 |true=>
  rw[e1]at k44
  have hs:(1<=p.rg/\p.rg<=8)/\(1<=p.ln/\p.ln<=100000000):=by
   simp[Jq,wi]at e1;omega
  simp[TT,Qc,pS,sR,e1];refine⟨by simpa[Qc]using k44,?_⟩;refine afm p l2 Y0 _ (fun e2=>?_) (fun e2 kI=>?_)
  ·simp[bW,Qc,pS,e2];refine afn p l4 hs.1 Y0 _ (fun e3=>?_) (fun e3 kB=>?_)
   ·simp[bW,Qc,pS,e3]
    have YW:xL p.aM=true:=by
     simp[Tp]at e2;exact e2.2.2.1
    refine RG p l3 l6 YW hs.1 hs.2 Y0 _ fun b e4=>?_;cases b with
    |false=>simp[Af,bW,Qc,pS,e4]
    |true=>
     simp[Af,bW,Qc,pS,e4];simpa[Qc]using k48
   simp[Af,bW,Qc,pS,e3]
  simp[Af,bW,Qc,pS,e2]
end Go.Proofs.YtnopaopphmjnmaaGreatDoor
